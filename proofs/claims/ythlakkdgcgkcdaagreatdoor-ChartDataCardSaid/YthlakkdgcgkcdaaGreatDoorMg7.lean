/- tally.Join of rows that are formed so. -/
import Derived.Test.YthlakkdgcgkcdaaGreatDoorMg6
namespace Go.Proofs.YthlakkdgcgkcdaaGreatDoor
set_option maxHeartbeats 8000000
set_option maxRecDepth 100000
open Go.RowKit Go.Extern.Stop Go.Stop Go.Extern
set_option linter.unusedVariables false
attribute [local irreducible] wpList wpAnyH Code.wp Oper.wp Go
theorem Dk(E:List Ent)(i:Nat)(w:World)(hs:(E.getD i Xg).2.1.length≤1000):Calls Tryz.prog 96 #[.string ⟨(E.getD i Xg).2.1.toArray⟩] w (Ret (.tuple #[.int .i64 (jVal E i),.int .i64 (Xz Gw (E.getD i Xg).2.1)]) w):=Rz _ w hs
theorem outL_setK{F:List Int}{E:List Ent}{i kk:Nat}(h:jOk F E (i+1))(hk:Qb E i=(kk:Int)):((Lr F E i).map (Value.int .i64)).set kk (.int .i64 (jVal E i))=(Lr F E (i+1)).map (Value.int .i64):=by
 have e:=outL_set h
 rwa [hk,Int.toNat_natCast] at e
theorem Zgz{F:List Int}{E:List Ent}{i kk:Nat}(hk:Qb E i=(kk:Int)):(Gm F E i).erase ((kk:Nat):Int)=Gm F E (i+1):=by rw[←hk];exact openL_del F E i
theorem Zg1(E:List Ent)(i:Nat):Kl E (i+1)=Qb E i:=by unfold Kl;rw[if_neg (by omega),Nat.add_sub_cancel]
def JoinP(F:List Int)(E:List Ent)(w:World)(e:Ending)(w':World):Prop :=
 ∃ p c,e=.returned (.tuple #[.slice p (Vu F E).2.length c,.int .i64 (Vu F E).1])∧Below w.heap.size w w'∧w'.ownsRow w.heap.size 3 1 (.slice p (Vu F E).2.length c) (Vu F E).2.length ((Vu F E).2.map (Value.int .i64))
theorem Qp{F:List Int}{E:List Ent}{w W:World}{z:Int}(h:Vu F E=(z,[]))(hb:Below w.heap.size w W):JoinP F E w (.returned (.tuple #[.slice none 0 0,.int .i64 z])) W:=⟨none,0,by rw[h];rfl,hb,by rw[h];exact World.ownsRow_nil _ _ _ _⟩
theorem Zep{F:List Int}{E:List Ent}{i:Nat}(h:Qb E i≤Kl E i):Zcr F E i=8:=if_pos h
theorem Fv{F:List Int}{E:List Ent}{i:Nat}(h:Kl E i<Qb E i)(h3:F.getD (Qb E i).toNat 0≠3):Zcr F E i=13:=by unfold Zcr;rw[if_neg (by omega),if_pos h3]
theorem jBad_r{F:List Int}{E:List Ent}{i:Nat}(h:Kl E i<Qb E i)(h3:F.getD (Qb E i).toNat 0=3):Zcr F E i=Xz Gw (E.getD i Xg).2.1:=by unfold Zcr;rw[if_neg (by omega),if_neg (fun q=>q h3)]
theorem Zgr(B2:Nat)(pl:Option Addr)(cl:Nat)(gs:List (Nat×Nat))(L:List (List Int))(a:Option Addr)(ce:Nat)(E:List Ent)(w:World)(hL:Lists w B2 (.slice pl L.length cl) gs L)(hF:FormOk L)(hl:L.length≤1200000000)(hE:Sts Vd w (.slice a E.length ce) E)(hv:∀ i,i<E.length→(E.getD i Xg).2.1.length≤1000) :
 Calls Tryz.prog 61 #[.slice pl L.length cl,.slice a E.length ce] w (JoinP L.flatten E w):=by
 have hEl:=Sl.len hE
 refine zin 61 Tryz.func61 ?_
 refine xc 9 (args:=#[.slice pl L.length cl]) (Zg0 B2 pl cl gs L _ (hL.below (Below.refl w.heap.size _)) hF hl) ?_
 rintro _ W1 ⟨_,rfl,hb1,p,c,rm,rfl,ho0,hm0,hfr⟩
 have hs1:=Nat.le_refl w.heap.size
 have hg0:=hfr
 refine xv1 33 9 (show(.int .i64 (-1):Value)=.int .i64 (Kl E 0) from rfl) ?_
 have ho0'1:=Zd ho0 hs1
 refine zl 0 61 (fun zm zkv V=>∃ (i:Nat),zkv=[(6,.slice p L.flatten.length c),(7,.map (some rm)),(9,.int .i64 (Kl E i)),(22,.slice a E.length ce),(23,.int .i64 (↑E.length:Int)),(24,.int .i64 (↑i:Int))]∧zm=E.length-((↑i:Int)).toNat∧Below w.heap.size w V∧V.ownsRow w.heap.size 3 1 (.slice p L.flatten.length c) L.flatten.length ((Lr L.flatten E i).map (Value.int .i64))∧Wb V rm (Gm L.flatten E i)∧i≤E.length∧jOk L.flatten E i) ⟨0,rfl,rfl,hb1,(by rw[outL_zero];exact ho0'1),(by rw[openL_zero];exact hm0),Nat.zero_le _,(fun j hj=>absurd hj (by omega))⟩ ?_
 rintro _ _ W2 ⟨i,rfl,rfl,hB_2,ho,hm,hi,hok⟩ J2 hJ2 r2
 have hjl:=Pi hok
 refine xid 6 ((↑i:Int)<(↑E.length:Int)) (fun hc3=>?_) (fun hc3=>?_)
 ·refine xx 6 _ E.length i 3 (Sts.cell hE Xq Xg (k:=i) (i:=0) (by omega) rfl).1 ?_
  refine xlv 0 (Sts.rp (k:=i) (hE.below hB_2) Xq Xg (by omega) (by decide)) ?_
  refine xa 0 [.int .i64 0,.string ⟨#[]⟩,.int .i64 0] 77 fun b4 W4 n4=>?_
  have g4:=n4.ge hB_2
  refine xsv 0 n4.blk [.int .i64 (Qb E i),.string ⟨((E.getD i Xg).2.1).toArray⟩,.int .i64 ((E.getD i Xg).2.2)] fun W5 u5 k5=>?_
  refine xb 6 0 k5 ?_
  refine xid 4 ((Qb E i)≤(Kl E i)) (fun hc6=>?_) (fun hc6=>?_)
  ·have hB'1:=u5.below (bln hB_2 n4.below) g4
   exact xe 13 (.tuple #[.slice none 0 0,.int .i64 8]) (Qp ((Vv (by omega) hok (by rw[Zep (by omega)];decide)).trans (by rw[Zep (by omega)])) hB'1)
  have hlt:Kl E i<Qb E i:=by omega
  refine xb 7 0 k5 ?_
  have hm'1:=(hm.below n4.below).updBlk u5 n4.blk
  refine xlk 0 (k:=(Qb E i)) Tryz.underlying178 Tryz.underlying3 (fun V=>by kernel_rfl) hm'1 ?_
  refine xi 3 (!(decide ((Qb E i)∈(Gm L.flatten E i)))) (fun hc7=>?_) (fun hc7=>?_)
  ·have hno:¬ (Qb E i∈Gm L.flatten E i):=by simpa using hc7
   have hB'2:=u5.below (bln hB_2 n4.below) g4
   refine xe 13 (.tuple #[.slice none 0 0,.int .i64 13]) ?_
   have h13:=Fv (F:=L.flatten) hlt (fun q=>hno ((Zfn hok hlt).2 q))
   exact Qp ((Vv (by omega) hok (by rw[h13];decide)).trans (by rw[h13])) hB'2
  have hin:Qb E i∈Gm L.flatten E i:=by simpa using hc7
  have h3:=(Zfn hok hlt).1 hin
  have hjr:=jBad_r (F:=L.flatten) hlt h3
  refine xb 5 1 k5 ?_
  refine xr 0 (args:=#[.string ⟨((E.getD i Xg).2.1).toArray⟩]) (Dk E i _ (hv i (by omega))) fun W8 hb8=>?_
  refine xin 14 (Xz Gw (E.getD i Xg).2.1) (0:Int) (fun hc9=>?_) (fun hc9=>?_)
  ·have hB'3:=bln (u5.below (bln hB_2 n4.below) g4) hb8
   exact xe 14 (.tuple #[.slice none 0 0,.int .i64 (Xz Gw (E.getD i Xg).2.1)]) (Qp ((Vv (by omega) hok (by rw[hjr];omega)).trans (by rw[hjr])) hB'3)
  have hok2:jOk L.flatten E (i+1):=Io hok (by rw[hjr];omega)
  obtain⟨kk,hkk⟩:∃ kk:Nat,Qb E i=(kk:Int):=⟨(Qb E i).toNat,by have:=hjl.1;omega⟩
  have hkl:=Zae h3
  rw[hkk,Int.toNat_natCast] at hkl
  have ho'1:=Zb (u5.own2 (Zb ho n4.below) n4.blk (by decide)) hb8
  obtain⟨gq,rfl,_⟩:=Jz ho'1 (by omega)
  have k5'1:=k5.below hb8
  have kq:Blk W8 b4 [.int .i64 (↑kk:Int),.string ⟨((E.getD i Xg).2.1).toArray⟩,.int .i64 ((E.getD i Xg).2.2)] 77:=by rw[←hkk];exact k5'1
  refine xb 6 0 kq ?_
  refine xx 1 _ L.flatten.length kk 1 (Hm ho'1 (by omega)).1 ?_
  refine xst 0 fun _ _ _ _ zJ zQ zo zx zy zK=>Wh (t:=3) (k:=kk) (v:=.int .i64 (jVal E i)) zo zx zy (by kernel_rfl) rfl ho'1 (by omega) fun W10 u10 o10=>?_
  rw[outL_setK (F:=L.flatten) hok2 hkk] at o10
  refine zK _ _ ?_
  have kq'1:=u10.blk kq (Ak kq ho'1 (by decide))
  refine xb 6 0 kq'1 ?_
  have hm'2:=(hm'1.below hb8).updRow u10 ho'1
  refine xmd 0 (k:=(↑kk:Int)) Tryz.underlying178 Tryz.underlying3 hm'2 (hkk▸hin) fun W11 u11 m11=>?_
  rw[Zgz (F:=L.flatten) hkk] at m11
  have kq'2:=blk_map kq'1 hm'2 u11
  refine xb 4 0 kq'2 ?_
  refine xwm 5 ((↑i:Int)+1) (↑(i+1):Int) ?_
  refine xv1 2 9 (show(.int .i64 (↑kk:Int):Value)=.int .i64 (Kl E (i+1)) from by rw[Zg1,hkk]) ?_
  have hB'4:=u11.below (u10.below (bln (u5.below (bln hB_2 n4.below) g4) hb8) (Zcn ho'1)) hfr
  have o10'1:=Zdl o10 hm'2 u11
  exact ze 0 (hJ2 _ _ _ ⟨i+1,rfl,rfl,hB'4,o10'1,m11,by omega,hok2⟩ (by omega))
 refine xml 9 Tryz.underlying178 hm ?_
 refine xid 3 ((↑(Gm L.flatten E i).length:Int)>(0:Int)) (fun hc12=>?_) (fun hc12=>?_)
 ·refine xe 8 (.tuple #[.slice none 0 0,.int .i64 13]) ?_
  obtain rfl:i=E.length:=by omega
  exact Qp ((Wr hok).trans (if_neg (fun q=>by have h0:=congrArg List.length q;rw[List.length_nil] at h0;omega))) hB_2
 refine xe 10 (.tuple #[.slice p L.flatten.length c,.int .i64 0]) ?_
 obtain rfl:i=E.length:=by omega
 have hnil:Gm L.flatten E E.length=[]:=List.eq_nil_of_length_eq_zero (by omega)
 have hj:=(Wr hok).trans (if_pos hnil)
 exact⟨p,c,by rw[hj,Yh],hB_2,by rw[hj,Yh];exact ho⟩
def OutP(O:List Int×Int×List Int)(w:World)(e:Ending)(w':World):Prop :=
 (O.2.1≠0∧∃ ty x,e=.returned (.tuple #[.slice none 0 0,.iface ty x])∧Below w.heap.size w w'∧Jb w' (O.1.map some) (some O.2.1) (.iface ty x)) ∨
 (O.2.1=0∧∃ p c,e=.returned (.tuple #[.slice p O.2.2.length c,.nilIface])∧Below w.heap.size w w'∧w'.ownsRow w.heap.size 3 1 (.slice p O.2.2.length c) O.2.2.length (O.2.2.map (Value.int .i64)))
theorem Gb{O:List Int×Int×List Int}{bl:List Int}{er:Int}{w W:World}{ty:TypeId}{x:Value}(h:O=(bl,er,[]))(her:er≠0)(hb:Below w.heap.size w W)(hv:Jb W (bl.map some) (some er) (.iface ty x)):OutP O w (.returned (.tuple #[.slice none 0 0,.iface ty x])) W:=by
 subst h;exact .inl ⟨her,ty,x,rfl,hb,hv⟩
theorem out_ok{O:List Int×Int×List Int}{L:List Int}{n:Nat}{w W:World}{p:Option Addr}{c:Nat}(h:O=([],0,L))(hn:L.length=n)(hb:Below w.heap.size w W)(ho:W.ownsRow w.heap.size 3 1 (.slice p n c) n (L.map (Value.int .i64))):OutP O w (.returned (.tuple #[.slice p n c,.nilIface])) W:=by
 subst h hn;exact .inr ⟨rfl,p,c,rfl,hb,ho⟩
theorem Hd(no er:Int)(bl:List Int)(v:Value)(w:World)(hv:Jb w (bl.map some) (some er) v) :
 Calls Tryz.prog 31 #[.int .i64 no,v] w (fun e w'=>∃ ty x,e=.returned (.iface ty x)∧Below w.heap.size w w'∧Jb w' ((no::bl).map some) (some er) (.iface ty x)):=by
 refine(Qm no (some er) (bl.map some) v w hv).mono ?_
 rintro e W ⟨r,rfl,hb,hr⟩
 rw[show atL no (bl.map some) (some er)=(no::bl).map some from by unfold atL Nz;simp] at hr
 have hr2:Jb W (some no::bl.map some) (some er) r:=hr
 obtain⟨blk,v',rfl,h1,h2⟩:=hr2
 exact⟨_,_,rfl,hb,blk,v',rfl,h1,h2⟩
theorem bitR_le(l:List UInt8)(no:Int):(Qz l no).length≤960:=by
 by_cases h:Xh l no=0
 ·rw[(Rp h).2]
  unfold Xh at h
  by_cases h1:inE l 3 no=0
  ·rw[if_pos h1] at h
   by_cases h2:Gz (inB l no)=true
   ·exact((Jj _).1 h2).2.1
   ·rw[if_neg h2] at h;omega
  ·rw[if_neg h1] at h;exact absurd h h1
 ·rw[Dy h];exact Nat.zero_le _
theorem Zei(B b:Nat)(p:Option Addr)(n c:Nat)(l:List UInt8)(no:Int)(w:World)(hI:ImgR B b p n c l w) :
 Calls Tryz.prog 94 #[.pointer (some ⟨b,0,none⟩),.int .i64 no] w (fun e w' =>
 (Xh l no≠0∧∃ ty x,e=.returned (.tuple #[.slice none 0 0,.iface ty x])∧Below w.heap.size w w'∧Jb w' (([no]:List Int).map some) (some (Xh l no)) (.iface ty x)) ∨
 (Xh l no=0∧∃ p c,e=.returned (.tuple #[.slice p (Qz l no).length c,.nilIface])∧Below w.heap.size w w'∧w'.ownsRow w.heap.size 3 1 (.slice p (Qz l no).length c) (Qz l no).length ((Qz l no).map (Value.int .i64)))):=by
 refine(block_Bits B b p n c l no w hI).mono ?_
 rintro e W q
 rcases q with ⟨h,b,rfl,hb,hv⟩|⟨h,p,c,rfl,hb,ho⟩
 ·exact .inl ⟨h,_,_,rfl,hb,hv⟩
 ·refine .inr ⟨h,p,c,by rw[(Rp h).2],hb,?_⟩
  rw[(Rp h).2,(Rp h).1,bitI_map];exact ho
theorem Zaa(Bi b:Nat)(pi:Option Addr)(ni ci:Nat)(l:List UInt8)(x:Plc)(want:Int)(w:World)(hI:ImgR Bi b pi ni ci l w) :
 Calls Tryz.prog 60 #[.agg #[.int .i64 (↑x.1.1:Int),.int .i64 (↑x.1.2.1:Int),.int .i64 (↑x.1.2.2:Int),.int .i64 x.2.1,.int .i64 x.2.2],.pointer (some ⟨b,0,none⟩),.int .i64 want] w (OutP (Ti l x want) w):=by
 refine zin 65 Tryz.func60 ?_
 refine xa 2 [.int .i64 (↑x.1.1:Int),.int .i64 (↑x.1.2.1:Int),.int .i64 (↑x.1.2.2:Int),.int .i64 x.2.1,.int .i64 x.2.2] 83 fun b1 W1 n1=>?_
 refine xb 8 4 n1.blk ?_
 refine xin 3 x.2.2 (0:Int) (fun hc2=>?_) (fun hc2=>?_)
 ·refine xb 3 3 n1.blk ?_
  refine xb 1 4 n1.blk ?_
  refine xc 1 (args:=#[.int .i64 x.2.1,.iface 51 (.int .i64 x.2.2)]) (Hd x.2.1 x.2.2 [] _ _ rfl) ?_
  rintro _ W3 ⟨ty3,v3,rfl,hb3,hva⟩
  have hB:=bln n1.below hb3
  exact xe 6 (.tuple #[.slice none 0 0,.iface ty3 (v3)]) (Gb (by unfold Ti;rw[if_pos (by assumption)]) (by assumption) hB hva)
 refine xb 7 0 n1.blk ?_
 refine xc 0 (args:=#[.pointer (some ⟨b,0,none⟩),.int .i64 (↑x.1.1:Int)]) (Zei Bi b pi ni ci l (↑x.1.1:Int) _ (hI.below n1.below)) ?_
 rintro e W4 hq4
 rcases hq4 with ⟨hbe,tyb,vb,rfl,hb4,hv9⟩|⟨hbe,p9,c9,rfl,hb4,ho9⟩
 ·have k1'1:=n1.blk.below hb4
  refine xb 18 3 k1'1 ?_
  refine xc 1 (args:=#[.int .i64 x.2.1,.iface tyb (vb)]) (Hd x.2.1 (Xh l (↑x.1.1:Int)) [(↑x.1.1:Int)] _ _ hv9) ?_
  rintro _ W5 ⟨ty5,v5,rfl,hb5,hva⟩
  have hB'1:=bln (bln n1.below hb4) hb5
  exact xe 6 (.tuple #[.slice none 0 0,.iface ty5 (v5)]) (Gb (by unfold Ti;rw[if_neg (by omega),if_pos hbe]) hbe hB'1 hva)
 refine xin 26 (↑((Qz l (↑x.1.1:Int)).length):Int) want (fun hc6=>?_) (fun hc6=>?_)
 ·have k1'2:=n1.blk.below hb4
  refine xb 3 3 k1'2 ?_
  refine xc 1 (args:=#[.int .i64 x.2.1,.iface 51 (.int .i64 7)]) (Hd x.2.1 7 [] _ _ rfl) ?_
  rintro _ W7 ⟨ty7,v7,rfl,hb7,hva⟩
  have hB'2:=bln (bln n1.below hb4) hb7
  exact xe 6 (.tuple #[.slice none 0 0,.iface ty7 (v7)]) (Gb (by unfold Ti;rw[if_neg (by omega),if_neg (by omega),if_pos (by assumption)]) (by decide) hB'2 hva)
 have ho9'1:=Zd ho9 n1.below.size
 refine xr 6 (args:=#[.slice p9 ((Qz l (↑x.1.1:Int)).length) c9]) (Zby p9 c9 (Qz l (↑x.1.1:Int)) _ (bitR_le _ _) (Zf ho9'1)) fun W8 hb8=>?_
 have k1'3:=(n1.blk.below hb4).below hb8
 refine xb 12 1 k1'3 ?_
 refine xg 2 [52,53] ((↑(Yk (Qz l (↑x.1.1:Int))):Int) != (↑x.1.2.1:Int)) (fun hc9=>?_) (fun hc9=>?_)
 ·have hc9:=Qq hc9
  refine xb 12 3 k1'3 ?_
  refine xc 1 (args:=#[.int .i64 x.2.1,.iface 51 (.int .i64 13)]) (Hd x.2.1 13 [] _ _ rfl) ?_
  rintro _ W10 ⟨ty10,v10,rfl,hb10,hva⟩
  have hB'3:=bln (bln (bln n1.below hb4) hb8) hb10
  exact xe 6 (.tuple #[.slice none 0 0,.iface ty10 (v10)]) (Gb (by unfold Ti;rw[if_neg (by omega),if_neg (by omega),if_neg (by omega),if_neg (by omega)]) (by decide) hB'3 hva)
 have hc9:=Xl hc9
 refine xb 3 2 k1'3 ?_
 refine xin 4 (↑(Xn (Qz l (↑x.1.1:Int))):Int) (↑x.1.2.2:Int) (fun hc11=>?_) (fun hc11=>?_)
 ·refine xb 3 3 k1'3 ?_
  refine xc 1 (args:=#[.int .i64 x.2.1,.iface 51 (.int .i64 13)]) (Hd x.2.1 13 [] _ _ rfl) ?_
  rintro _ W12 ⟨ty12,v12,rfl,hb12,hva⟩
  have hB'4:=bln (bln (bln n1.below hb4) hb8) hb12
  exact xe 6 (.tuple #[.slice none 0 0,.iface ty12 (v12)]) (Gb (by unfold Ti;rw[if_neg (by omega),if_neg (by omega),if_neg (by omega),if_neg (by omega)]) (by decide) hB'4 hva)
 have hB'5:=bln (bln n1.below hb4) hb8
 have ho9'2:=Zb ho9'1 hb8
 exact xe 10 (.tuple #[.slice p9 ((Qz l (↑x.1.1:Int)).length) c9,.nilIface]) (out_ok (by unfold Ti;rw[if_neg (by omega),if_neg (by omega),if_neg (by omega),if_pos (by omega)]) rfl hB'5 ho9'2)
theorem Py(l:List UInt8)(root tree fuel:Int):∀ i,i<(Zg l root tree fuel).es.length→((Zg l root tree fuel).es.getD i Xg).2.1.length≤1000:=fun i hi=>by
 have hx:(Zg l root tree fuel).es.getD i Xg∈(Zg l root tree fuel).es:=by rw[show(Zg l root tree fuel).es.getD i Xg=(Zg l root tree fuel).es[i] from by simp[List.getD,hi]];exact List.getElem_mem hi
 obtain⟨_,_,k,_,_,h,_⟩:=(scan_law l root tree fuel).2.2.1 _ hx
 rw[←h]
 exact Gd _ _ _
theorem scan_pos(l:List UInt8)(root tree fuel:Int):∀ i,i<(Zg l root tree fuel).es.length→0≤Qb (Zg l root tree fuel).es i:=fun i hi=>by
 obtain⟨es,fs,h⟩:=Ug l root tree fuel
 have h1:(Zg l root tree fuel).es=es:=by rw[h.esE];rfl
 rw[h1] at hi ⊢
 unfold Qb
 rw[show es.getD i Xg=es[i] from by simp[List.getD,hi]]
 exact(h.rise.2 _ (List.getElem_mem hi)).1
def Tn(n:Int)(i:Nat):Int:=if 0<i∧n-960*i<0 then 0 else n-960*i
theorem remI_zero(n:Int):Tn n 0=n:=by unfold Tn;rw[if_neg (by omega)];omega
theorem rem_in{n:Int}{i m:Nat}(hX:m=bmI n)(hi:i<m):Tn n i=n-960*i∧1≤n-960*i∧(if 960<Tn n i then 960 else Tn n i)=Vg n i∧1≤Vg n i∧Vg n i≤960∧Tn n i-Vg n i=Tn n (i+1):=by
 unfold bmI bmN at hX
 have h1:1≤n-960*i:=by omega
 have h2:Tn n i=n-960*i:=by unfold Tn;rw[if_neg (by omega)]
 have h3:(if 960<Tn n i then 960 else Tn n i)=Vg n i:=by
  unfold Vg;rw[h2];split<;>split<;>omega
 have h4:1≤Vg n i∧Vg n i≤960:=by unfold Vg;split<;>omega
 refine⟨h2,h1,h3,h4.1,h4.2,?_⟩
 rw[h2]
 unfold Vg Tn
 split<;>split<;>omega
theorem Zfc{n:Int}(h:n≤1099511627776):bmI n≤1200000000:=by unfold bmI bmN;omega
theorem joinO_nil{F:List Int}{E:List Ent}(h:(Vu F E).1≠0):(Vu F E).2=[]:=by
 unfold Vu at h ⊢
 split
 ·rfl
 ·rename_i hq
  rw[hq] at h
  dsimp only at h
  split
  ·rename_i h2;rw[if_pos h2] at h;exact absurd rfl h
  ·rfl
theorem Rj(Bi b:Nat)(pi:Option Addr)(ni ci:Nat)(l:List UInt8)(root tree fuel:Int)(w:World)(hfu:fuel≤1000)(hI:ImgR Bi b pi ni ci l w) :
 Calls Tryz.prog 29 #[.pointer (some ⟨b,0,none⟩),.int .i64 root,.int .i64 tree,.int .i64 fuel] w (fun e w' =>
 ((Zg l root tree fuel).fs≠[]∧∃ pe ce pb cb pf cf ty x,e=.returned (.tuple #[.agg #[.slice pe 0 ce,.slice pb 0 cb,.int .i64 0,.int .i64 0,.slice pf 0 cf],.iface ty x])∧Below w.heap.size w w'∧Jb w' ((Xx (Zg l root tree fuel)).1.map some) (some (Xx (Zg l root tree fuel)).2) (.iface ty x)) ∨
 ((Zg l root tree fuel).fs=[]∧∃ pe ce pb nb cb dp lk pf cf,e=.returned (.tuple #[.agg #[.slice pe (Zg l root tree fuel).es.length ce,.slice pb nb cb,.int .i64 dp,.int .i64 lk,.slice pf 0 cf],.nilIface])∧Below w.heap.size w w'∧w'.ownsRow w.heap.size 77 3 (.slice pe (Zg l root tree fuel).es.length ce) (Zg l root tree fuel).es.length ((Zg l root tree fuel).es.flatMap Vd))):=by
 refine(Zef Bi b pi ni ci l root tree fuel w hfu hI).mono ?_
 rintro e W ⟨t,pe,pb,pf,ce,cb,cf,fv,v,ht,rfl,hb,hW,hv⟩
 by_cases h:(Zg l root tree fuel).fs=[]
 ·obtain⟨h1,_,h3,h4⟩:=Gy h
  rw[h1] at ht
  rw[h3,h4] at hv
  subst ht
  have hv2:v=.nilIface:=hv
  subst hv2
  refine .inr ⟨h,pe,ce,pb,(Zg l root tree fuel).bs.length,cb,(Zg l root tree fuel).deep,((Zg l root tree fuel).looked:Int),pf,cf,?_,hb,hW.ents⟩
  unfold walkC
  rw[h];rfl
 ·obtain⟨h1,h2,h3,h4⟩:=Qs h
  rw[h1] at ht
  rw[h3,h4,←h2] at hv
  subst ht
  rcases hv.nil_or with ⟨hz,_⟩|⟨_,ty,x,rfl⟩
  ·simp[Nz] at hz
  ·exact .inl ⟨h,pe,ce,pb,cb,pf,cf,ty,x,rfl,hb,hv⟩
theorem Sy(Bi b:Nat)(pi:Option Addr)(ni ci:Nat)(l:List UInt8)(X:List Plc)(n:Int)(i:Nat)(w:World)(hI:ImgR Bi b pi ni ci l w)(hw:1≤Vg n i) :
 Calls Tryz.prog 60 #[.agg #[.int .i64 ((X.getD i Jp).1.1:Int),.int .i64 ((X.getD i Jp).1.2.1:Int),.int .i64 ((X.getD i Jp).1.2.2:Int),.int .i64 (X.getD i Jp).2.1,.int .i64 (X.getD i Jp).2.2],.pointer (some ⟨b,0,none⟩),.int .i64 (Vg n i)] w (fun e w' =>
 ((Hj l X n i).2.1≠0∧∃ ty x,e=.returned (.tuple #[.slice none 0 0,.iface ty x])∧Below w.heap.size w w'∧Jb w' ((Hj l X n i).1.map some) (some (Hj l X n i).2.1) (.iface ty x)) ∨
 ((Hj l X n i).2.1=0∧∃ g c,e=.returned (.tuple #[.slice (some ⟨g,0,none⟩) (Qz l ((X.getD i Jp).1.1:Int)).length c,.nilIface])∧Below w.heap.size w w'∧w'.ownsRow w.heap.size 3 1 (.slice (some ⟨g,0,none⟩) (Qz l ((X.getD i Jp).1.1:Int)).length c) (Qz l ((X.getD i Jp).1.1:Int)).length ((Qz l ((X.getD i Jp).1.1:Int)).map (Value.int .i64)))):=by
 refine(Zaa Bi b pi ni ci l (X.getD i Jp) (Vg n i) w hI).mono ?_
 rintro e W q
 rcases q with ⟨h,ty,x,rfl,hb,hv⟩|⟨h,p,c,rfl,hb,ho⟩
 ·exact .inl ⟨h,ty,x,rfl,hb,hv⟩
 ·obtain⟨h1,h2⟩:=Zdc h
  rw[h1] at ho ⊢
  obtain⟨g,rfl,_⟩:=Jz ho (by show 0<(Qz l ((X.getD i Jp).1.1:Int)).length;omega)
  exact .inr ⟨h,g,c,rfl,hb,ho⟩
theorem La{gs:List (Nat×Nat)}{l:List UInt8}{X:List Plc}{n:Int}{i g c:Nat}(hg:gs.length=i) :
 (List.range i).map (Cb gs (Gl l X n i))++[.slice (some ⟨g,0,none⟩) (Qz l ((X.getD i Jp).1.1:Int)).length c]=(List.range (i+1)).map (Cb (gs++[(g,c)]) (Gl l X n (i+1))):=by
 have hl:gs.length=(Gl l X n i).length:=by rw[Yw];exact hg
 rw[List.range_succ,List.map_append,List.map_singleton,Za3]
 congr 1
 ·exact List.map_congr_left fun k hk=>(Du hl (by rw[Yw];exact List.mem_range.1 hk)).symm
 ·have:=Ei (c:=c) (g:=g) (ch:=Qz l ((X.getD i Jp).1.1:Int)) hl
  rw[Yw] at this
  rw[this]
theorem Mu{W:World}{base g c i:Nat}{gs:List (Nat×Nat)}{l:List UInt8}{X:List Plc}{n:Int}(h:Each W base gs (Gl l X n i))(hg:gs.length=i)(ho:W.ownsRow base 3 1 (.slice (some ⟨g,0,none⟩) (Qz l ((X.getD i Jp).1.1:Int)).length c) (Qz l ((X.getD i Jp).1.1:Int)).length ((Qz l ((X.getD i Jp).1.1:Int)).map (Value.int .i64))):Each W base (gs++[(g,c)]) (Gl l X n (i+1)):=by
 have hl:gs.length=(Gl l X n i).length:=by rw[Yw];exact hg
 intro k hk
 rw[Yw] at hk
 rw[Za3]
 by_cases e:k<i
 ·have hk2:k<(Gl l X n i).length:=by rw[Yw];exact e
  rw[Du hl hk2,show(Gl l X n i++[Qz l ((X.getD i Jp).1.1:Int)]).getD k []=(Gl l X n i).getD k [] from by simp[List.getD,List.getElem?_append_left,hk2]]
  exact h k hk2
 ·obtain rfl:k=i:=by omega
  have h2:=Ei (c:=c) (g:=g) (ch:=Qz l ((X.getD k Jp).1.1:Int)) hl
  rw[Yw] at h2
  rw[h2,show(Gl l X n k++[Qz l ((X.getD k Jp).1.1:Int)]).getD k []=Qz l ((X.getD k Jp).1.1:Int) from by
   have h3:=Yw l X n k
   simp[List.getD,h3]]
  exact ho
theorem Zaq{W:World}{base m c:Nat}{p:Option Addr}{gs:List (Nat×Nat)}{l:List UInt8}{X:List Plc}{n:Int}(hr:W.ownsRow base 30 1 (.slice p m c) m ((List.range m).map (Cb gs (Gl l X n m))))(he:Each W base gs (Gl l X n m)):Lists W base (.slice p (Gl l X n m).length c) gs (Gl l X n m):=⟨by rw[Yw];exact hr,fun i hi=>he i hi⟩
theorem Zeb(m:Nat)(B2:Nat)(pl:Option Addr)(cl:Nat)(gs:List (Nat×Nat))(L:List (List Int))(a:Option Addr)(ce:Nat)(E:List Ent)(w:World)(hm:L.length=m)(hL:Lists w B2 (.slice pl L.length cl) gs L)(hF:FormOk L)(hl:L.length≤1200000000)(hE:Sts Vd w (.slice a E.length ce) E)(hv:∀ i,i<E.length→(E.getD i Xg).2.1.length≤1000) :
 Calls Tryz.prog 61 #[.slice pl m cl,.slice a E.length ce] w (JoinP L.flatten E w):=by
 subst hm;exact Zgr B2 pl cl gs L a ce E w hL hF hl hE hv
theorem chart_all(Bi b:Nat)(pi:Option Addr)(ni ci:Nat)(l:List UInt8)(px:Option Addr)(cx:Nat)(X:List Plc)(over n fuel:Int)(w:World)(hI:ImgR Bi b pi ni ci l w)(hX:Sts plcC w (.slice px X.length cx) X)(hXn:X.length=bmI n)(hn:n≤1099511627776)(hfu:fuel≤1000) :
 Calls Tryz.prog 33 #[.pointer (some ⟨b,0,none⟩),.slice px X.length cx,.int .i64 over,.int .i64 n,.int .i64 fuel] w (OutP (allO l X over n fuel) w):=by
 have hXl:=Zfc hn
 rw[←hXn] at hXl
 refine zin 72 Tryz.func33 ?_
 refine xv1 20 3 (show(.int .i64 n:Value)=.int .i64 (Tn n 0) from by rw[remI_zero]) ?_
 have hB:=Below.refl w.heap.size w
 refine zl 0 72 (fun zm zkv V=>∃ (i:Nat) (gs:List (Nat×Nat)) (p:Option Addr) (c:Nat),zkv=[(0,.pointer (some ⟨b,0,none⟩)),(2,.int .i64 over),(3,.int .i64 (Tn n i)),(4,.int .i64 fuel),(12,.slice p i c),(22,.slice px X.length cx),(23,.int .i64 (↑X.length:Int)),(24,.int .i64 (↑i:Int))]∧zm=X.length-((↑i:Int)).toNat∧Below w.heap.size w V∧V.ownsRow w.heap.size 30 1 (.slice p i c) i ((List.range i).map (Cb gs (Gl l X n i)))∧Each V w.heap.size gs (Gl l X n i)∧i≤X.length∧gs.length=i∧allK l X n i) ⟨0,[],none,0,rfl,rfl,hB,World.ownsRow_nil _ _ _ _,(fun j hj=>absurd hj (by rw[Yw];omega)),Nat.zero_le _,rfl,(fun j hj=>absurd hj (by omega))⟩ ?_
 rintro _ _ W1 ⟨i,gs,p,c,rfl,rfl,hB_1,ho,hEa,hi,hgl,hok⟩ J1 hJ1 r1
 have hrm:=fun(q:i<X.length)=>rem_in hXn q
 refine xid 6 ((↑i:Int)<(↑X.length:Int)) (fun hc2=>?_) (fun hc2=>?_)
 ·refine xx 6 _ X.length i 5 (Sts.cell hX Zen Jp (k:=i) (i:=0) (by omega) rfl).1 ?_
  refine xlv 0 (Sts.rp (k:=i) (hX.below hB_1) Zen Jp (by omega) (by decide)) ?_
  refine xa 0 [.int .i64 0,.int .i64 0,.int .i64 0,.int .i64 0,.int .i64 0] 83 fun b3 W3 n3=>?_
  have g3:=n3.ge hB_1
  refine xsv 0 n3.blk [.int .i64 (↑(X.getD i Jp).1.1:Int),.int .i64 (↑(X.getD i Jp).1.2.1:Int),.int .i64 (↑(X.getD i Jp).1.2.2:Int),.int .i64 ((X.getD i Jp).2.1),.int .i64 ((X.getD i Jp).2.2)] fun W4 u4 k4=>?_
  refine xq 5 (congrArg (Value.int .i64) (show(if(960:Int)<(Tn n i) then(960:Int) else(Tn n i):Int)=(Vg n i) from(hrm (by omega)).2.2.1)) ?_
  refine xlv 5 k4.rp ?_
  have hB'1:=u4.below (bln hB_1 n3.below) g3
  refine xc 2 (args:=#[.agg #[.int .i64 (↑(X.getD i Jp).1.1:Int),.int .i64 (↑(X.getD i Jp).1.2.1:Int),.int .i64 (↑(X.getD i Jp).1.2.2:Int),.int .i64 ((X.getD i Jp).2.1),.int .i64 ((X.getD i Jp).2.2)],.pointer (some ⟨b,0,none⟩),.int .i64 (Vg n i)]) (Sy Bi b pi ni ci l X n i _ (hI.below hB'1) (hrm (by omega)).2.2.2.1) ?_
  rintro e W5 hq5
  rcases hq5 with ⟨hbe,tyc,vc,rfl,hb5,hv9⟩|⟨hbe,g9,c9,rfl,hb5,ho9⟩
  ·have hB'2:=bln hB'1 hb5
   exact xe 29 (.tuple #[.slice none 0 0,.iface tyc (vc)]) (Gb (Mn (by omega) hok hbe) hbe hB'2 hv9)
  have hs5:=(u4.below (bln hB_1 n3.below) g3).size
  refine xbs 21 1 [.slice (some ⟨g9,0,none⟩) ((Qz l (↑(X.getD i Jp).1.1:Int)).length) c9] 30 fun b6 W6 n6=>?_
  have hB'3:=bln hB'1 hb5
  have g6:=n6.ge hB'3
  have ho'1:=Zb (u4.own2 (Zb ho n3.below) n3.blk (by decide)) hb5
  have r6_ho:=Zu ho'1 n6
  have ho'2:=Zb ho'1 n6.below
  have hB'4:=bln hB'3 n6.below
  refine xbi 0 fun _ _ _ _ zJ zQ zo zx zy zK=>Zp (m:=1) (news:=[.slice (some ⟨g9,0,none⟩) ((Qz l (↑(X.getD i Jp).1.1:Int)).length) c9]) (.slice none 0 0) 1 24 (i+1) (((List.range (i+1)).map (Cb (gs++[(g9,c9)]) (Gl l X n (i+1))))) zo Tryz.underlying91 (by kernel_rfl) rfl (by decide) zx ho'2 zy (n6.blk.sl 1 1 (by decide) (by decide)) rfl (by simp[Value.oneCell']) (by unfold maxLen;omega) (by omega) hB'4.size (rfl) (by rw[←La hgl]) fun px7 cx7 W7 o7 hg7 hb7=>?_
  refine zK _ _ ?_
  refine xq 6 (congrArg (Value.int .i64) (show IntKind.i64.wrap ((Tn n i)-(Vg n i))=(Tn n (i+1)) from(show IntKind.i64.wrap ((Tn n i)-(Vg n i))=((Tn n i)-(Vg n i)) from by first|exact IntWalk.i64_in _ (by omega)|(simp only[IntKind.wrap];omega)).trans ((hrm (by omega)).2.2.2.2.2))) ?_
  refine xwm 5 ((↑i:Int)+1) (↑(i+1):Int) ?_
  have hEa'1:=((((hEa.below n3.below).only (Ze.of_upd (T:=[83]) u4 n3.blk (by decide)) (by decide)).below hb5).below n6.below).only (Ze.of_grown (T:=[30]) hg7 ho'2 (by decide)) (by decide)
  have ho9'1:=Zh (Zb (Zd ho9 hs5) n6.below) hg7 ho'2 (by decide)
  have hB'5:=hB'4.trans hb7
  exact ze 2 (hJ1 _ _ _ ⟨i+1,gs++[(g9,c9)],_,_,rfl,rfl,hB'5,o7,(Mu hEa'1 hgl ho9'1),by omega,by rw[List.length_append,hgl];rfl,Ml hok hbe⟩ (by omega))
 obtain rfl:i=X.length:=by omega
 refine xc 10 (args:=#[.pointer (some ⟨b,0,none⟩),.int .i64 over,.int .i64 5,.int .i64 fuel]) (Rj Bi b pi ni ci l over 5 fuel _ hfu (hI.below hB_1)) ?_
 rintro e W8 hq8
 rcases hq8 with ⟨hfs,pe,ce,pb,cb,pf,cf,tyw,vw,rfl,hb8,hv9⟩|⟨hfs,pe,ce,pb,nb,cb,dp,lk,pf,cf,rfl,hb8,hen⟩
 ·refine xa 3 [.slice none 0 0,.slice none 0 0,.int .i64 0,.int .i64 0,.slice none 0 0] 70 fun b9 W9 n9=>?_
  have hB'6:=bln hB_1 hb8
  have g9:=n9.ge hB'6
  refine xsv 0 n9.blk [.slice pe 0 ce,.slice pb 0 cb,.int .i64 0,.int .i64 0,.slice pf 0 cf] fun W10 u10 k10=>?_
  have hv9'1:=(hv9.below n9.below).only (Ze.of_upd (T:=[70]) u10 n9.blk (by decide)) (by decide)
  have hB'7:=u10.below (bln hB'6 n9.below) g9
  exact xe 20 (.tuple #[.slice none 0 0,.iface tyw (vw)]) (Gb ((Bp hok).trans (Za5 hfs)) (Uy hfs) hB'7 hv9'1)
 refine xa 3 [.slice none 0 0,.slice none 0 0,.int .i64 0,.int .i64 0,.slice none 0 0] 70 fun b11 W11 n11=>?_
 have hB'8:=bln hB_1 hb8
 have g11:=n11.ge hB'8
 refine xsv 0 n11.blk [.slice pe ((Zg l over 5 fuel).es.length) ce,.slice pb nb cb,.int .i64 dp,.int .i64 lk,.slice pf 0 cf] fun W12 u12 k12=>?_
 refine xb 17 0 k12 ?_
 have ho'3:=u12.own2 (Zb (Zb ho hb8) n11.below) n11.blk (by decide)
 have hEa'2:=((hEa.below hb8).below n11.below).only (Ze.of_upd (T:=[70]) u12 n11.blk (by decide)) (by decide)
 have hen'1:=u12.own2 (Zb (Zd hen hB_1.size) n11.below) n11.blk (by decide)
 refine xc 0 (args:=#[.slice p X.length c,.slice pe ((Zg l over 5 fuel).es.length) ce]) (Zeb X.length w.heap.size p c gs (Gl l X n X.length) pe ce (Zg l over 5 fuel).es _ (Yw _ _ _ _) (Zaq ho'3 hEa'2) (Za0 hok hXn) (by rw[Yw,hXn];exact Zfc hn) (Zf hen'1) (Py _ _ _ _)) ?_
 rintro _ W13 ⟨pj,cj,rfl,hb13,hoj⟩
 have hs13:=(u12.below (bln hB'8 n11.below) g11).size
 refine xin 14 ((Vu (Gl l X n X.length).flatten (Zg l over 5 fuel).es).1) (0:Int) (fun hc14=>?_) (fun hc14=>?_)
 ·refine xc 5 (args:=#[.int .i64 over,.iface 51 (.int .i64 ((Vu (Gl l X n X.length).flatten (Zg l over 5 fuel).es).1))]) (Hd over (Vu (Gl l X n X.length).flatten (Zg l over 5 fuel).es).1 [] _ _ rfl) ?_
  rintro _ W15 ⟨ty15,v15,rfl,hb15,hva⟩
  have hB'9:=bln (bln (u12.below (bln hB'8 n11.below) g11) hb13) hb15
  exact xe 6 (.tuple #[.slice none 0 0,.iface ty15 (v15)]) (Gb ((Bp hok).trans (Ai hfs (by assumption))) (by assumption) hB'9 hva)
 have hB'10:=bln (u12.below (bln hB'8 n11.below) g11) hb13
 have hoj'1:=Zd hoj hs13
 exact xe 10 (.tuple #[.slice pj ((Vu (Gl l X n X.length).flatten (Zg l over 5 fuel).es).2.length) cj,.nilIface]) (out_ok ((Bp hok).trans (Ot hfs (by omega))) rfl hB'10 hoj'1)
theorem plcE_snoc{es:List Ent}{i:Nat}(hi:i<es.length):((es.take (i+1)).map Kg).flatMap plcC=((es.take i).map Kg).flatMap plcC++plcC (Kg (es.getD i Xg)):=by
 rw[List.take_succ_eq_append_getElem hi,List.map_append,List.flatMap_append,show es.getD i Xg=es[i] from by simp[List.getD,hi]]
 simp only[List.map_cons,List.map_nil,List.flatMap_cons,List.flatMap_nil,List.append_nil]
theorem Zam{l:List UInt8}{index over n fuel:Int}(h:(Zg l index 4 fuel).fs≠[]):Jc l index over n fuel=((Xx (Zg l index 4 fuel)).1,(Xx (Zg l index 4 fuel)).2,[]):=if_pos h
theorem Zce{l:List UInt8}{index over n fuel:Int}(h:(Zg l index 4 fuel).fs=[])(h2:(Zg l index 4 fuel).es.length≠bmI n):Jc l index over n fuel=([index],7,[]):=by unfold Jc;rw[if_neg (fun q=>q h),if_pos h2]
theorem Zcc{l:List UInt8}{index over n fuel:Int}{i:Nat}(h:(Zg l index 4 fuel).fs=[])(h2:(Zg l index 4 fuel).es.length=bmI n)(hi:i<(Zg l index 4 fuel).es.length)(h3:((Zg l index 4 fuel).es.getD i Xg).1≠(i:Int)):Jc l index over n fuel=([index],7,[]):=by unfold Jc;rw[if_neg (fun q=>q h),if_neg (fun q=>q h2),if_pos (keysOk_bad hi h3)]
theorem Hc{l:List UInt8}{index over n fuel:Int}(h:(Zg l index 4 fuel).fs=[])(h2:(Zg l index 4 fuel).es.length=bmI n)(h3:∀ i,i<(Zg l index 4 fuel).es.length→((Zg l index 4 fuel).es.getD i Xg).1=(i:Int)):Jc l index over n fuel=allO l ((Zg l index 4 fuel).es.map Kg) over n fuel:=by unfold Jc;rw[if_neg (fun q=>q h),if_neg (fun q=>q h2),if_neg (by rw[Zbf h3];decide)]
theorem chart_allN(m:Nat)(Bi b:Nat)(pi:Option Addr)(ni ci:Nat)(l:List UInt8)(px:Option Addr)(cx:Nat)(X:List Plc)(over n fuel:Int)(w:World)(hm:X.length=m)(hI:ImgR Bi b pi ni ci l w)(hX:Sl w (.slice px m cx) m (X.flatMap plcC))(hXn:m=bmI n)(hn:n≤1099511627776)(hfu:fuel≤1000) :
 Calls Tryz.prog 33 #[.pointer (some ⟨b,0,none⟩),.slice px m cx,.int .i64 over,.int .i64 n,.int .i64 fuel] w (OutP (allO l X over n fuel) w):=by
 subst hm;exact chart_all Bi b pi ni ci l px cx X over n fuel w hI hX hXn hn hfu
theorem Aj(Bi b:Nat)(pi:Option Addr)(ni ci:Nat)(l:List UInt8)(index over n fuel:Int)(w:World)(hI:ImgR Bi b pi ni ci l w)(hn:n≤1099511627776)(hfu:fuel≤1000) :
 Calls Tryz.prog 16 #[.pointer (some ⟨b,0,none⟩),.int .i64 index,.int .i64 over,.int .i64 n,.int .i64 fuel] w (OutP (Jc l index over n fuel) w):=by
 have hbl:=Zfc hn
 refine zin 76 Tryz.func16 ?_
 refine xc 11 (args:=#[.pointer (some ⟨b,0,none⟩),.int .i64 index,.int .i64 4,.int .i64 fuel]) (Rj Bi b pi ni ci l index 4 fuel _ hfu (hI.below (Below.refl w.heap.size _))) ?_
 rintro e W1 hq1
 rcases hq1 with ⟨hfs,pe,ce,pb,cb,pf,cf,tyw,vw,rfl,hb1,hv9⟩|⟨hfs,pe,ce,pb,nb,cb,dp,lk,pf,cf,rfl,hb1,hen⟩
 ·refine xa 3 [.slice none 0 0,.slice none 0 0,.int .i64 0,.int .i64 0,.slice none 0 0] 70 fun b2 W2 n2=>?_
  refine xsv 0 n2.blk [.slice pe 0 ce,.slice pb 0 cb,.int .i64 0,.int .i64 0,.slice pf 0 cf] fun W3 u3 k3=>?_
  have g2:=n2.ge hb1
  have hv9'1:=(hv9.below n2.below).only (Ze.of_upd (T:=[70]) u3 n2.blk (by decide)) (by decide)
  have hB:=u3.below (bln hb1 n2.below) g2
  exact xe 20 (.tuple #[.slice none 0 0,.iface tyw (vw)]) (Gb (Zam hfs) (Uy hfs) hB hv9'1)
 have hs1:=Nat.le_refl w.heap.size
 refine xa 3 [.slice none 0 0,.slice none 0 0,.int .i64 0,.int .i64 0,.slice none 0 0] 70 fun b4 W4 n4=>?_
 refine xsv 0 n4.blk [.slice pe ((Zg l index 4 fuel).es.length) ce,.slice pb nb cb,.int .i64 dp,.int .i64 lk,.slice pf 0 cf] fun W5 u5 k5=>?_
 have g4:=n4.ge hb1
 refine xd 15 .z ?_
 have k5'1:=k5.below (Za W5)
 refine xb (.e [0] 1) 0 k5'1 ?_
 refine xr (.o [2,3] 4) (args:=#[.int .i64 n]) (Iy n _ hn) fun W6 hb6=>?_
 refine xin (.r [5] 2) (↑((Zg l index 4 fuel).es.length):Int) (↑(bmI n):Int) (fun hc7=>?_) (fun hc7=>?_)
 ·have hne:(Zg l index 4 fuel).es.length≠bmI n:=by omega
  refine xc 4 (args:=#[.int .i64 index,.iface 51 (.int .i64 7)]) (Hd index 7 [] _ _ rfl) ?_
  rintro _ W8 ⟨ty8,v8,rfl,hb8,hva⟩
  have hB:=bln (bln (bln (u5.below (bln hb1 n4.below) g4) (Za W5)) hb6) hb8
  exact xe 6 (.tuple #[.slice none 0 0,.iface ty8 (v8)]) (Gb (Zce hfs hne) (by decide) hB hva)
 have hlen:(Zg l index 4 fuel).es.length=bmI n:=by omega
 have k5'2:=k5'1.below hb6
 refine xb 11 0 k5'2 ?_
 have hen'1:=Zb (Zb (u5.own2 (Zb (Zd hen hs1) n4.below) n4.blk (by decide)) (Za W5)) hb6
 have hB:=bln (bln (u5.below (bln hb1 n4.below) g4) (Za W5)) hb6
 refine zl 5 76 (fun zm zkv V=>∃ (i:Nat) (p:Option Addr) (c:Nat),zkv=[(0,.pointer (some ⟨b,0,none⟩)),(1,.int .i64 index),(2,.int .i64 over),(3,.int .i64 n),(4,.int .i64 fuel),(14,.slice p i c),(39,.slice pe ((Zg l index 4 fuel).es.length) ce),(40,.int .i64 (↑((Zg l index 4 fuel).es.length):Int)),(41,.int .i64 (↑i:Int))]∧zm=(Zg l index 4 fuel).es.length-((↑i:Int)).toNat∧Below w.heap.size w V∧Blk V b4 ([.slice pe ((Zg l index 4 fuel).es.length) ce,.slice pb nb cb,.int .i64 dp,.int .i64 lk,.slice pf 0 cf]) 70∧V.ownsRow w.heap.size 77 3 (.slice pe (Zg l index 4 fuel).es.length ce) (Zg l index 4 fuel).es.length ((Zg l index 4 fuel).es.flatMap Vd)∧V.ownsRow w.heap.size 83 5 (.slice p i c) i ((((Zg l index 4 fuel).es.take i).map Kg).flatMap plcC)∧i≤(Zg l index 4 fuel).es.length∧(∀ j,j<i→((Zg l index 4 fuel).es.getD j Xg).1=(j:Int))) ⟨0,none,0,rfl,rfl,hB,k5'2,hen'1,World.ownsRow_nil _ _ _ _,Nat.zero_le _,?_⟩ ?_
 ·exact fun j hj=>absurd hj (by omega)
 rintro _ _ W9 ⟨i,p,c,rfl,rfl,hB_9,k9_b4,hen,ho,hi,hky⟩ J9 hJ9 r9
 refine xid 6 ((↑i:Int)<(↑((Zg l index 4 fuel).es.length):Int)) (fun hc10=>?_) (fun hc10=>?_)
 ·refine xx 7 _ ((Zg l index 4 fuel).es.length) i 3 (Sts.cell (f:=Vd) (Zf hen) Xq Xg (k:=i) (i:=0) (by omega) rfl).1 ?_
  refine xlv 0 (Sts.rp (k:=i) (Zf hen) Xq Xg (by omega) (by decide)) ?_
  refine xa 0 [.int .i64 0,.string ⟨#[]⟩,.int .i64 0] 77 fun b11 W11 n11=>?_
  have g11:=n11.ge hB_9
  have r11_hen:=Zu hen n11
  refine xsv 1 n11.blk [.int .i64 (((Zg l index 4 fuel).es.getD i Xg).1),.string ⟨(((Zg l index 4 fuel).es.getD i Xg).2.1).toArray⟩,.int .i64 (((Zg l index 4 fuel).es.getD i Xg).2.2)] fun W12 u12 k12=>?_
  refine xb 6 0 k12 ?_
  refine xin 4 (((Zg l index 4 fuel).es.getD i Xg).1) (↑i:Int) (fun hc13=>?_) (fun hc13=>?_)
  ·refine xc 4 (args:=#[.int .i64 index,.iface 51 (.int .i64 7)]) (Hd index 7 [] _ _ rfl) ?_
   rintro _ W14 ⟨ty14,v14,rfl,hb14,hva⟩
   have hB'1:=bln (u12.below (bln hB_9 n11.below) g11) hb14
   exact xe 11 (.tuple #[.slice none 0 0,.iface ty14 (v14)]) (Gb (Zcc hfs hlen (i:=i) (by omega) (by assumption)) (by decide) hB'1 hva)
  refine xb 5 1 k12 ?_
  refine xr 0 (args:=#[.string ⟨(((Zg l index 4 fuel).es.getD i Xg).2.1).toArray⟩]) (Sc ((Zg l index 4 fuel).es.getD i Xg).2.1 _ (Py _ _ _ _ i (by omega))) fun W15 hb15=>?_
  refine xa 3 [.int .i64 0,.int .i64 0,.int .i64 0] 79 fun b16 W16 n16=>?_
  have hB'2:=bln (u12.below (bln hB_9 n11.below) g11) hb15
  have g16:=n16.ge hB'2
  refine xsv 0 n16.blk [.int .i64 (↑((Xr Xp ((Zg l index 4 fuel).es.getD i Xg).2.1).getD 0 0):Int),.int .i64 (↑((Xr Xp ((Zg l index 4 fuel).es.getD i Xg).2.1).getD 1 0):Int),.int .i64 (↑((Xr Xp ((Zg l index 4 fuel).es.getD i Xg).2.1).getD 2 0):Int)] fun W17 u17 k17=>?_
  refine xlv 5 k17.rp ?_
  have k12'1:=u17.blkT ((k12.below hb15).below n16.below) n16.blk (by decide)
  refine xb 1 2 k12'1 ?_
  refine xbs 2 1 [.int .i64 (↑((Xr Xp ((Zg l index 4 fuel).es.getD i Xg).2.1).getD 0 0):Int),.int .i64 (↑((Xr Xp ((Zg l index 4 fuel).es.getD i Xg).2.1).getD 1 0):Int),.int .i64 (↑((Xr Xp ((Zg l index 4 fuel).es.getD i Xg).2.1).getD 2 0):Int),.int .i64 (((Zg l index 4 fuel).es.getD i Xg).2.2),.int .i64 (Xz Xp ((Zg l index 4 fuel).es.getD i Xg).2.1)] 83 fun b18 W18 n18=>?_
  have hB'3:=u17.below (bln hB'2 n16.below) g16
  have g18:=n18.ge hB'3
  have ho'1:=u17.own2 (Zb (Zb (u12.own2 (Zb ho n11.below) n11.blk (by decide)) hb15) n16.below) n16.blk (by decide)
  have r18_ho:=Zu ho'1 n18
  have ho'2:=Zb ho'1 n18.below
  have hB'4:=bln hB'3 n18.below
  refine xbi 0 fun _ _ _ _ zJ zQ zo zx zy zK=>Zp (m:=1) (news:=[.int .i64 (↑((Xr Xp ((Zg l index 4 fuel).es.getD i Xg).2.1).getD 0 0):Int),.int .i64 (↑((Xr Xp ((Zg l index 4 fuel).es.getD i Xg).2.1).getD 1 0):Int),.int .i64 (↑((Xr Xp ((Zg l index 4 fuel).es.getD i Xg).2.1).getD 2 0):Int),.int .i64 (((Zg l index 4 fuel).es.getD i Xg).2.2),.int .i64 (Xz Xp ((Zg l index 4 fuel).es.getD i Xg).2.1)]) (.agg #[.int .i64 0,.int .i64 0,.int .i64 0,.int .i64 0,.int .i64 0]) 5 40 (i+1) (((((Zg l index 4 fuel).es.take (i+1)).map Kg).flatMap plcC)) zo Tryz.underlying75 (by kernel_rfl) rfl (by decide) zx ho'2 zy (n18.blk.sl 1 1 (by decide) (by decide)) rfl (by simp[Value.oneCell']) (by unfold maxLen;omega) (by omega) hB'4.size (rfl) (by rw[plcE_snoc (by omega)];rfl) fun px19 cx19 W19 o19 hg19 hb19=>?_
  refine zK _ _ ?_
  refine xwm 5 ((↑i:Int)+1) (↑(i+1):Int) ?_
  have hB'5:=hB'4.trans hb19
  have k9_b4'1:=((u17.blkT (((u12.blkT (k9_b4.below n11.below) n11.blk (by decide)).below hb15).below n16.below) n16.blk (by decide)).below n18.below).grown hg19 ho'2 (by decide)
  have hen'2:=Zh (Zb (u17.own2 (Zb (Zb (u12.own3 (Zb hen n11.below) r11_hen) hb15) n16.below) n16.blk (by decide)) n18.below) hg19 ho'2 (by decide)
  exact ze 2 (hJ9 _ _ _ ⟨i+1,_,_,rfl,rfl,hB'5,k9_b4'1,hen'2,o19,by omega,fun j hj=>(Nat.lt_or_ge j i).elim (hky j) (fun q=>by obtain rfl:j=i:=(by omega);omega)⟩ (by omega))
 have hiE:i=(Zg l index 4 fuel).es.length:=by omega
 have hsr:=Zf ho
 rw[hiE,List.take_of_length_le (Nat.le_refl _)] at hsr
 rw[←hiE] at hsr
 refine xc 12 (args:=#[.pointer (some ⟨b,0,none⟩),.slice p i c,.int .i64 over,.int .i64 n,.int .i64 fuel]) (chart_allN i Bi b pi ni ci l p c ((Zg l index 4 fuel).es.map Kg) over n fuel _ (by rw[List.length_map];exact hiE.symm) (hI.below hB_9) hsr (hiE.trans hlen) hn hfu) ?_
 rintro e W20 hq20
 rcases hq20 with ⟨hbe,tya,va,rfl,hb20,hv9⟩|⟨hbe,p9,c9,rfl,hb20,ho9⟩
 ·have hB'6:=bln hB_9 hb20
  refine xe 7 (.tuple #[.slice none 0 0,.iface tya (va)]) ?_
  rw[Hc hfs hlen (fun j hj=>hky j (by omega))]
  exact .inl ⟨hbe,_,_,rfl,hB'6,hv9⟩
 have hB'7:=bln hB_9 hb20
 have ho9'1:=Zd ho9 hB_9.size
 refine xe 7 (.tuple #[.slice p9 ((allO l ((Zg l index 4 fuel).es.map Kg) over n fuel).2.2.length) c9,.nilIface]) ?_
 rw[Hc hfs hlen (fun j hj=>hky j (by omega))]
 exact .inr ⟨hbe,_,_,rfl,hB'7,ho9'1⟩
theorem ref09_Free(a:Option Addr)(c:Nat)(l:List Int)(w:World)(hl:l.length≤960)(h:Sl w (.slice a l.length c) l.length (l.map (Value.int .i64))) :
 Calls Tryz.prog 67 #[.slice a l.length c] w (Ret (.tuple #[.int .i64 (↑(Yk l):Int),.int .i64 (↑(Xn l):Int)]) w):=by
 refine zin 35 Tryz.func67 ?_
 have hB:=Below.refl w.heap.size w
 refine zl 18 35 (fun zm zkv V=>∃ (i f:Nat),zkv=[(0,.slice a l.length c),(2,.int .i64 0),(3,.int .i64 0),(4,.int .i64 (↑f:Int)),(5,.int .i64 (↑i:Int))]∧zm=l.length-((↑i:Int)).toNat∧Below w.heap.size w V∧i≤l.length∧f=Zdr l i) ⟨0,0,rfl,rfl,hB,Nat.zero_le _,rfl⟩ ?_
 rintro _ _ W1 ⟨i,f,rfl,rfl,hB_1,hi,hf⟩ J1 hJ1 r1
 have hfs:=fun(q:i<l.length)=>Aq q
 have hfb:=Eh l i
 refine xid 9 ((↑i:Int)<(↑l.length:Int)) (fun hc2=>?_) (fun hc2=>?_)
 ·refine xx 8 _ l.length i 1 (Ints.elem h (k:=i) (by omega)).1 ?_
  refine xl 0 ((Ints.elem (h.below hB_1) (k:=i) (by omega)).2) ?_
  refine xie 3 (l.getD i 0) (0:Int) (fun hc3=>?_) (fun hc3=>?_)
  ·refine xwm 2 ((↑f:Int)+1) (↑(f+1):Int) ?_
   refine xwm 6 ((↑i:Int)+1) (↑(i+1):Int) ?_
   exact ze 2 (hJ1 _ _ _ ⟨i+1,f+1,rfl,rfl,hB_1,by omega,by rw[hfs (by omega),if_pos (by assumption),hf]⟩ (by omega))
  refine xwm 5 ((↑i:Int)+1) (↑(i+1):Int) ?_
  exact ze 2 (hJ1 _ _ _ ⟨i+1,f,rfl,rfl,hB_1,by omega,by rw[hfs (by omega),if_neg (by assumption)];exact hf⟩ (by omega))
 refine zl 12 35 (fun zm zkv V=>∃ (g:Nat),zkv=[(0,.slice a l.length c),(2,.int .i64 0),(3,.int .i64 0),(4,.int .i64 (↑f:Int)),(6,.int .i64 (↑g:Int))]∧zm=l.length-((↑g:Int)).toNat∧Below w.heap.size w V∧g≤l.length∧((∀ j,j<g→l.getD j 0≠0))) ⟨0,rfl,rfl,hB_1,Nat.zero_le _,?_⟩ ?_
 ·exact fun j hj=>absurd hj (by omega)
 rintro _ _ W4 ⟨g,rfl,rfl,hB_4,hg,hz⟩ J4 hJ4 r4
 refine xg 8 [23,24] (decide ((↑g:Int)<(↑l.length:Int))) (fun hc5=>?_) (fun hc5=>?_)
 ·have hc5:=of_decide_eq_true hc5
  refine xx 2 _ l.length g 1 (Ints.elem h (k:=g) (by omega)).1 ?_
  refine xl 0 ((Ints.elem (h.below hB_4) (k:=g) (by omega)).2) ?_
  refine xin 4 (l.getD g 0) (0:Int) (fun hc6=>?_) (fun hc6=>?_)
  ·refine xwm 5 ((↑g:Int)+1) (↑(g+1):Int) ?_
   exact ze 3 (hJ4 _ _ _ ⟨g+1,rfl,rfl,hB_4,by omega,fun j hj=>(Nat.lt_or_ge j g).elim (fun q=>hz j q) (fun q=>by obtain rfl:j=g:=(by omega);first|assumption|omega)⟩ (by omega))
  refine xe 14 (.tuple #[.int .i64 (↑f:Int),.int .i64 (↑g:Int)]) ?_
  obtain rfl:i=l.length:=by omega
  have hfin:f=Yk l:=hf
  have hgf:g=Xn l:=by first|(exact(Ex (by omega) (by omega) hz).symm)|(obtain rfl:g=l.length:=(by omega);exact(Ns hz).symm)
  subst hfin hgf
  exact⟨rfl,hB_4⟩
 have hc5:=of_decide_eq_false hc5
 refine xe 23 (.tuple #[.int .i64 (↑f:Int),.int .i64 (↑g:Int)]) ?_
 obtain rfl:i=l.length:=by omega
 have hfin:f=Yk l:=hf
 have hgf:g=Xn l:=by first|(exact(Ex (by omega) (by omega) hz).symm)|(obtain rfl:g=l.length:=(by omega);exact(Ns hz).symm)
 subst hfin hgf
 exact⟨rfl,hB_4⟩
def entE(v:Nat)(l:List Ent)(i:Nat):Prop:=lastK l i<(l.getD i Xg).1∧(l.getD i Xg).1≤281474976710655∧(l.getD i Xg).2.1.length=v
instance (v:Nat) (l:List Ent) (i:Nat):Decidable (entE v l i):=by unfold entE;infer_instance
def slB (x:Nat×Nat×Nat):List UInt8:=leB (x.1:Int) 8++leB (x.2.1:Int) 4++leB (x.2.2:Int) 4
theorem slB_len(x:Nat×Nat×Nat):(slB x).length=16:=by simp[slB,Zo]
theorem leB_get{n w i:Nat}(h:i<w):(leB (n:Int) w).getD i 0=UInt8.ofNat (n/256 ^ i):=by simp[leB,Xa,List.getD,List.getElem?_range h]
theorem Mv{a b:List UInt8}{m w:Nat}(hm:m<256 ^ w):Zi (a++(leB (m:Int) w++b)) a.length w=m:=by
 rw[Um w a.length m (fun i hi=>?_),Nat.mod_eq_of_lt hm]
 rw[List.getD,List.getElem?_append_right (by omega),List.getElem?_append_left (by rw[Zo];omega),show a.length+i-a.length=i by omega]
 exact leB_get hi
theorem Zgg{x:Nat×Nat×Nat}(h1:x.1≤14399)(h2:x.2.1≤960)(h3:x.2.2≤960):Li Xp (slB x)=[x.1,x.2.1,x.2.2]:=by
 have e0:Zi (slB x) 0 8=x.1:=by
  have h:=Mv (a:=[]) (b:=leB (x.2.1:Int) 4++leB (x.2.2:Int) 4) (m:=x.1) (w:=8) (by omega)
  simpa [slB,List.append_assoc] using h
 have e1:Zi (slB x) 8 4=x.2.1:=by
  have h:=Mv (a:=leB (x.1:Int) 8) (b:=leB (x.2.2:Int) 4) (m:=x.2.1) (w:=4) (by omega)
  rw[Zo] at h
  simpa [slB,List.append_assoc] using h
 have e2:Zi (slB x) 12 4=x.2.2:=by
  have h:=Mv (a:=leB (x.1:Int) 8++leB (x.2.1:Int) 4) (b:=[]) (m:=x.2.2) (w:=4) (by omega)
  rw[List.length_append,Zo,Zo] at h
  simpa [slB,List.append_assoc] using h
 show Hf (slB x) 0 [8,4,4]=_
 simp only[Hf]
 rw[e0,e1,e2]
theorem slB_ok{x:Nat×Nat×Nat}(h0:1≤x.1)(h1:x.1≤14399)(h2:x.2.1≤960)(h3:x.2.2≤960):Xz Xp (slB x)=0:=by
 have hr:Hk Xp (slB x)=true:=by
  unfold Hk
  rw[Zgg h1 h2 h3,show Xp.length=3 from rfl]
  unfold Nc
  rw[show List.range 3=[0,1,2] from rfl]
  simp[inP,Xp]
  omega
 unfold Xz
 rw[if_pos (by rw[slB_len];rfl),if_pos hr]
theorem slB_val{x:Nat×Nat×Nat}(h0:1≤x.1)(h1:x.1≤14399)(h2:x.2.1≤960)(h3:x.2.2≤960):Xr Xp (slB x)=[x.1,x.2.1,x.2.2]:=by
 unfold Xr
 rw[if_pos (slB_ok h0 h1 h2 h3),Zgg h1 h2 h3]
theorem Fc{l:List Int}(h:l.length≤960):Zi (Kw l) 0 4=l.length:=by
 have h2:=Mv (a:=[]) (b:=(List.range 240).map (g4B l l.length)) (m:=l.length) (w:=4) (by omega)
 simpa [Kw,Wq] using h2
theorem Iw(l:List Int)(j:Nat):atI l l.length j=l.getD j 0:=by
 unfold atI
 split
 ·rfl
 ·simp[List.getD,Nat.le_of_not_lt (by assumption)]
theorem Zfh{l:List Int}(h:Hh l){i:Nat}(hi:i<960):(Ss (Kw l) i:Int)=l.getD i 0:=by
 unfold Ss
 rw[show(Kw l).getD (4+i/4) 0=g4B l l.length (i/4) from Ze4 l l.length (by omega)]
 have b0:=Vk h (4*(i/4))
 have b1:=Vk h (4*(i/4)+1)
 have b2:=Vk h (4*(i/4)+2)
 have b3:=Vk h (4*(i/4)+3)
 unfold g4B g4
 rw[Iw,Iw,Iw,Iw,UInt8.toNat_ofNat']
 obtain e|e|e|e:i%4=0∨i%4=1∨i%4=2∨i%4=3:=by omega
 ·rw[show l.getD i 0=l.getD (4*(i/4)) 0 by rw[show 4*(i/4)=i by omega],e,show 2 ^ (0*2)=1 from rfl];omega
 ·rw[show l.getD i 0=l.getD (4*(i/4)+1) 0 by rw[show 4*(i/4)+1=i by omega],e,show 2 ^ (1*2)=4 from rfl];omega
 ·rw[show l.getD i 0=l.getD (4*(i/4)+2) 0 by rw[show 4*(i/4)+2=i by omega],e,show 2 ^ (2*2)=16 from rfl];omega
 ·rw[show l.getD i 0=l.getD (4*(i/4)+3) 0 by rw[show 4*(i/4)+3=i by omega],e,show 2 ^ (3*2)=64 from rfl];omega
theorem bitsB_ok{l:List Int}(h:Hh l)(hl:l.length≤960):Gz (Kw l)=true:=by
 rw[Jj]
 refine⟨Kc _ _,by rw[Fc hl];exact hl,fun i hi hc=>?_⟩
 rw[Fc hl] at hc
 have:=Zfh h hi
 rw[show l.getD i 0=0 from by simp[List.getD,hc]] at this
 omega
theorem putB_ge(l x:List UInt8)(k:Nat):l.length≤(Ke l k x).length:=by simp[Ke];omega
theorem Zem(L:List (List Int))(q:Nat)(bs:List UInt8):∀ i,bs.length≤(Kz L q bs i).length
 | 0=>Nat.le_refl _
 | i+1=>Nat.le_trans (Zem L q bs i) (putB_ge _ _ _)
theorem Zav{L:List (List Int)}{q m:Nat}{bs:List UInt8}:∀ {n i:Nat},(Kz L q bs n).length/256=m→bs.length/256=m→q+n≤m→i<n→Ko (Kz L q bs n) (q+i)=Yl 3 ((q+i:Nat):Int) (Kw (L.getD i []))
 | 0,i,_,_,_,hi=>absurd hi (by omega)
 | n+1,i,h,hb,hm,hi=>by
  have h1:=Zem L q bs n
  have h2:=putB_ge (Kz L q bs n) (Yl 3 ((q+n:Nat):Int) (Kw (L.getD n []))) ((q+n)*256)
  have h0:(Kz L q bs n).length/256=m:=by
   have h3:(Ke (Kz L q bs n) ((q+n)*256) (Yl 3 ((q+n:Nat):Int) (Kw (L.getD n [])))).length/256=m:=h
   have h4:=Nat.div_le_div_right (c:=256) h1
   have h5:=Nat.div_le_div_right (c:=256) h2
   omega
  have hx:(Yl 3 ((q+n:Nat):Int) (Kw (L.getD n []))).length=256:=Kt (by unfold Kw;rw[Kc];decide)
  show Ko (Ke (Kz L q bs n) ((q+n)*256) (Yl 3 ((q+n:Nat):Int) (Kw (L.getD n [])))) (q+i)=_
  by_cases e:i=n
  ·subst e;exact Zeu hx (by omega)
  ·rw[Ua hx (by omega) (by omega) (by omega)]
   exact Zav h0 hb (by omega) (by omega)
theorem seal_in{l:List UInt8}{kind:Int}{k:Nat}{li:List UInt8}(h1:1≤kind)(h2:kind≤4)(hk:k<l.length/256)(h4:k<14400)(hli:li.length=244)(hb:Ko l k=Yl kind (k:Int) li):inE l kind (k:Int)=0∧inB l (k:Int)=li:=by
 constructor
 ·rw[Zbn rfl rfl hk,hb];exact Za7 h1 h2 (by omega) (by omega) (by omega)
 ·rw[Zan rfl,hb,in_seal (by omega)];unfold Zcb;rw[hli,Nat.sub_self];simp
theorem getD_app{P Q:List UInt8}{k i:Nat}(hk:P.length=k):(P++Q).getD (k+i) 0=Q.getD i 0:=by
 subst hk
 simp[List.getD,List.getElem?_append_right]
theorem getD_hd{P Q:List UInt8}{i:Nat}(hi:i<P.length):(P++Q).getD i 0=P.getD i 0:=by
 simp[List.getD,List.getElem?_append_left hi]
theorem Gs{P Q:List UInt8}{k w:Nat}{x:Int}(hk:P.length=k)(h0:0≤x)(hb:x.toNat<256 ^ w):(Zi (P++(leB x w++Q)) k w:Int)=x:=by
 rw[Um w k x.toNat,Nat.mod_eq_of_lt hb]
 ·omega
 ·intro i hi
  rw[getD_app hk,getD_hd (by rw[Zo];exact hi)]
  simp[leB,Xa,List.getD,List.getElem?_range hi]
theorem Iz{P Q:List UInt8}{k:Nat}(hk:P.length=k):(P++Q).drop k=Q:=List.drop_left' hk
theorem Zbx(n m:Nat):Kq ((List.replicate n (0:UInt8)).take m)=true:=by
 unfold Kq;rw[List.all_eq_true]
 intro x hx
 have:=List.mem_of_mem_take hx
 rw[(List.mem_replicate.1 this).2];rfl
theorem Ra(K:List Int)(n j:Nat):∀ d,∃ X,Qi K n (j+d)=Qi K n j++X
 | 0=>⟨[],by simp⟩
 | d+1=>by
  obtain⟨X,hX⟩:=Ra K n j d
  exact⟨_,by rw[←Nat.add_assoc,Kn,hX,List.append_assoc]⟩
theorem Fx(Vs:List (List UInt8))(j:Nat):∀ d,∃ X,Vt Vs (j+d)=Vt Vs j++X
 | 0=>⟨[],by simp⟩
 | d+1=>by
  obtain⟨X,hX⟩:=Fx Vs j d
  exact⟨_,by rw[←Nat.add_assoc,Wo,hX,List.append_assoc]⟩
theorem Cf{l:List UInt8}:∀ {n:Nat},(∀ i,i<n→Nd l i=0)→Yc l n=0
 | 0,_=>rfl
 | n+1,h=>Vi (Cf fun i hi=>h i (by omega)) (h n (by omega))
theorem getD_ext{l l':List Int}(h:l.length=l'.length)(h2:∀ j,j<l.length→l.getD j 0=l'.getD j 0):l=l':=by
 apply List.ext_getElem h
 intro j h3 h4
 have:=h2 j h3
 simpa [List.getD,h3,h4] using this
theorem getD_extV{l l':List (List UInt8)}(h:l.length=l'.length)(h2:∀ j,j<l.length→l.getD j []=l'.getD j []):l=l':=by
 apply List.ext_getElem h
 intro j h3 h4
 have:=h2 j h3
 simpa [List.getD,h3,h4] using this
structure NodBack(b:List UInt8)(t:Int)(leaf:Bool)(n m v:Nat)(K:List Int)(Vs:List (List UInt8)):Prop where
 len:b.length=244
 e:Ys b=0
 t:Xs b=t
 l:Xm b=leaf
 c:Zn b=n
 k:Yr b n=K
 v:Ku b n=Vs
theorem Iq{t:Int}{leaf:Bool}{n m v:Nat}{K:List Int}{Vs:List (List UInt8)}(N:NodeOk t leaf n m v K Vs):NodBack (Gn m v (Ja t leaf n m v) K Vs n) t leaf n m v K Vs:=by
 have hmb:=Qd t leaf
 rw[N.hm] at hmb
 have hwb:=Sa t leaf
 rw[N.hv] at hwb
 have hfit:=fitN t leaf
 rw[N.hm,N.hv] at hfit
 have ht1:=N.ht1
 have ht2:=N.ht2
 have hnm:=N.hn
 have hform:=Ty (H:=Ja t leaf n m v) (K:=K) (Vs:=Vs) (Ky _ _ _ _ _) hfit hnm (fun j hj=>N.hw j hj)
 have hlen:=Fq (H:=Ja t leaf n m v) (K:=K) (Vs:=Vs) (Ky _ _ _ _ _) hfit hnm (fun j hj=>N.hw j hj)
 generalize Gn m v (Ja t leaf n m v) K Vs n=b at hform hlen
 obtain⟨R,hR⟩:∃ R,b=Ja t leaf n m v++R:=⟨_,by rw[hform,List.append_assoc,List.append_assoc]⟩
 have hfl:=Ov leaf
 have r0:(Zi b 0 1:Int)=Wn leaf:=by
  rw[hR,Ja];simp only[List.append_assoc]
  exact Gs (P:=[]) (k:=0) (w:=1) (x:=Wn leaf) rfl hfl.1 (Nat.lt_of_le_of_lt (show(Wn leaf).toNat≤255 by omega) (by decide))
 have r1:(Zi b 1 1:Int)=t:=by
  rw[hR,Ja];simp only[List.append_assoc]
  exact Gs (P:=leB (Wn leaf) 1) (by rw[Zo]) (by omega) (by omega)
 have r2:(Zi b 2 2:Int)=(n:Int):=by
  rw[hR,Ja];simp only[List.append_assoc]
  rw[←List.append_assoc]
  exact Gs (P:=leB (Wn leaf) 1++leB t 1) (by simp[Zo]) (by omega) (by omega)
 have r4:(Zi b 4 2:Int)=(v:Int):=by
  rw[hR,Ja];simp only[List.append_assoc]
  rw[←List.append_assoc,←List.append_assoc]
  exact Gs (P:=leB (Wn leaf) 1++leB t 1++leB (n:Int) 2) (by simp[Zo]) (by omega) (by omega)
 have r6:(Zi b 6 2:Int)=(m:Int):=by
  rw[hR,Ja];simp only[List.append_assoc]
  rw[←List.append_assoc,←List.append_assoc,←List.append_assoc]
  exact Gs (P:=leB (Wn leaf) 1++leB t 1++leB (n:Int) 2++leB (v:Int) 2) (by simp[Zo]) (by omega) (by omega)
 have r8:(Zi b 8 4:Int)=0:=by
  rw[hR,Ja];simp only[List.append_assoc]
  rw[←List.append_assoc,←List.append_assoc,←List.append_assoc,←List.append_assoc]
  exact Gs (P:=leB (Wn leaf) 1++leB t 1++leB (n:Int) 2++leB (v:Int) 2++leB (m:Int) 2) (by simp[Zo]) (by omega) (by decide)
 have eT:Xs b=t:=r1
 have eL:Xm b=leaf:=by
  unfold Xm;rw[r0];cases leaf<;>rfl
 have eC:Zn b=n:=by unfold Zn;omega
 have eW:Xj b=v:=by unfold Xj;rw[eT,eL,widG,if_pos ⟨ht1,ht2⟩];exact N.hv
 have eM:Xk b=m:=by unfold Xk;rw[eT,eL,maxG,if_pos ⟨ht1,ht2⟩];exact N.hm
 have hkey:∀ i,i<n→(Dj b i:Int)=K.getD i 0:=by
  intro i hi
  obtain⟨X,hX⟩:=Ra K n (i+1) (m-(i+1))
  rw[show i+1+(m-(i+1))=m by omega,Kn,if_pos hi] at hX
  unfold Dj
  rw[hform,hX]
  have hk:=N.hk0 i hi
  have:=Gs (P:=Ja t leaf n m v++Qi K n i) (Q:=X++(Vt Vs n++List.replicate (232-m*8-n*v) 0)) (k:=12+i*8) (w:=8) (x:=K.getD i 0) (by rw[List.length_append,Ky,Hp]) hk.1 (Nat.lt_of_le_of_lt (show(K.getD i 0).toNat≤281474976710655 by omega) (by decide))
  simp only[List.append_assoc] at this ⊢
  exact this
 have hval:∀ i,i<n→Dl b i=Vs.getD i []:=by
  intro i hi
  obtain⟨X,hX⟩:=Fx Vs (i+1) (n-(i+1))
  rw[show i+1+(n-(i+1))=n by omega,Wo] at hX
  have hvl:(Vt Vs i).length=i*v:=Px fun j hj=>N.hw j (by omega)
  unfold Dl
  rw[eM,eW,hform,hX]
  have:=Iz (P:=Ja t leaf n m v++Qi K n m++Vt Vs i) (Q:=Vs.getD i []++(X++List.replicate (232-m*8-n*v) 0)) (k:=12+m*8+i*v) (by rw[List.length_append,List.length_append,Ky,Hp,hvl])
  simp only[List.append_assoc] at this ⊢
  rw[this]
  exact List.take_left' (N.hw i hi)
 have hmv:n*v≤m*v:=Nat.mul_le_mul_right v hnm
 refine⟨hlen,?_,eT,eL,eC,?_,?_⟩
 ·have hs:Ka b=true:=by
   unfold Ka
   rw[eW,eM]
   refine decide_eq_true ⟨?_,by omega,by omega,by omega,by omega,by omega,?_⟩
   ·cases leaf<;>simp only[Wn] at r0<;>simp at r0<;>omega
   ·cases leaf with
    | true=>left;simp only[Wn] at r0;simp at r0;omega
    | false=>right;have:=N.hl rfl;omega
  have hz:Mx b=true:=by
   unfold Mx Eo Zb7 Eu
   rw[eC,eM,eW,Bool.and_eq_true]
   constructor
   ·have hk:=Gj K n (m-n)
    rw[show n+(m-n)=m by omega] at hk
    have:=Iz (P:=Ja t leaf n m v++Qi K n n) (Q:=List.replicate ((m-n)*8) 0++(Vt Vs n++List.replicate (232-m*8-n*v) 0)) (k:=12+n*8) (by rw[List.length_append,Ky,Hp])
    rw[hform,hk]
    simp only[List.append_assoc] at this ⊢
    rw[this,List.take_append_of_le_length (by rw[List.length_replicate];omega)]
    exact Zbx _ _
   ·have hvl:(Vt Vs n).length=n*v:=Px fun j hj=>N.hw j hj
    have:=Iz (P:=Ja t leaf n m v++Qi K n m++Vt Vs n) (Q:=List.replicate (232-m*8-n*v) 0) (k:=12+m*8+n*v) (by rw[List.length_append,List.length_append,Ky,Hp,hvl])
    rw[hform,this]
    exact Zbx _ _
  unfold Ys
  rw[if_pos hs,if_pos hz,eC]
  refine Cf fun i hi=>?_
  have h1:=hkey i hi
  have h2:=N.hk0 i hi
  unfold Nd
  rw[if_neg (by omega),if_neg ?_]
  rintro⟨h3,h4⟩
  have h5:=hkey (i-1) (by omega)
  have h6:=N.hk1 (i-1) (by omega)
  rw[show i-1+1=i by omega] at h6
  omega
 ·exact getD_ext (by rw[Yn,N.hK]) fun j hj=>by rw[Yn] at hj;rw[Lo b hj];exact hkey j hj
 ·exact getD_extV (by rw[Vj,N.hV]) fun j hj=>by rw[Vj] at hj;rw[Zbo b hj];exact hval j hj
theorem Ze5{t:Int}{leaf:Bool}{n m v:Nat}{K:List Int}{Vs:List (List UInt8)}(N:NodeOk t leaf n m v K Vs){l:List UInt8}{j len:Nat}(hl:l.length=len)(hj:j<len/256)(h4:j<14400)(hb:Ko l j=Yl 2 (j:Int) (Gn m v (Ja t leaf n m v) K Vs n))(tree:Int)(ht:tree=0∨t=tree) :
 Xc l (j:Int) tree=0∧inB l (j:Int)=Gn m v (Ja t leaf n m v) K Vs n:=by
 have B:=Iq N
 have hin:inB l (j:Int)=Gn m v (Ja t leaf n m v) K Vs n:=by
  rw[Zan (no:=(j:Int)) (j:=j) rfl,hb,in_seal (by rw[B.len];decide)]
  unfold Zcb;rw[B.len];simp
 refine⟨?_,hin⟩
 unfold Xc
 rw[Zbn (no:=(j:Int)) (j:=j) hl rfl hj,hb,if_pos (Za7 (by decide) (by decide) (by omega) (by omega) (by rw[B.len];decide)),hin]
 unfold Qf
 rw[if_pos B.e,if_pos (by rw[B.t];exact ht)]
theorem root_leB{q:Nat}(h1:1≤q)(h2:q≤14399):Yt (leB (q:Int) 4)=0∧(Vw (leB (q:Int) 4):Int)=(q:Int):=by
 have hr:(Zi (leB (q:Int) 4) 0 4:Int)=(q:Int):=by
  have:=Gs (P:=[]) (Q:=[]) (k:=0) (w:=4) (x:=(q:Int)) rfl (by omega) (Nat.lt_of_le_of_lt (show(q:Int).toNat≤14399 by omega) (by decide))
  simpa using this
 have he:Yt (leB (q:Int) 4)=0:=by
  unfold Yt;rw[if_pos (Zo _ _),if_pos (by omega)]
 exact⟨he,by unfold Vw;rw[if_pos he];exact hr⟩
def kvE (x:Ent):Int×List UInt8:=(x.1,x.2.1)
def LaidF(F:List UInt8)(t:Int)(leaf:Bool)(m v:Nat)(u:List Ent)(q:Nat):Prop :=
 ∀ i,i<ovN u.length m→Ko F (q+i)=Yl 2 ((q+i:Nat):Int) (nodB t leaf m v (Xe u m i))
theorem Wu{t:Int}{leaf:Bool}{m v:Nat}{l:List Ent}{q:Nat}{bs:List UInt8}(j:Nat):Pn t leaf m v l q bs (j+1)=Ke (Pn t leaf m v l q bs j) ((q+j)*256) (Yl 2 ((q+j:Nat):Int) (nodB t leaf m v (Xe l m j))):=rfl
theorem Vx{t:Int}{leaf:Bool}{m v:Nat}{l:List Ent}{q:Nat}{bs:List UInt8}(E:EntsOk v l)(h1:1≤t)(h2:t≤5)(hm:Vz t leaf=m)(hv:Ue t leaf=v)(hl:leaf=false→1≤l.length)(j:Nat) :
 j≤ovN l.length m→(q+j)*256≤bs.length→(Pn t leaf m v l q bs j).length=bs.length∧(∀ i,i<j→Ko (Pn t leaf m v l q bs j) (q+i)=Yl 2 ((q+i:Nat):Int) (nodB t leaf m v (Xe l m i)))∧(∀ x,x<q→Ko (Pn t leaf m v l q bs j) x=Ko bs x):=by
 induction j with
 | zero=>exact fun _ _=>⟨rfl,fun i hi=>absurd hi (Nat.not_lt_zero i),fun x _=>rfl⟩
 | succ j ih =>
  intro hj hq
  obtain⟨a1,a2,a3⟩:=ih (by omega) (by omega)
  have hlen:=Eg (Pm E h1 h2 hm hv hl (show j<ovN l.length m by omega))
  have hsl:(Yl 2 ((q+j:Nat):Int) (nodB t leaf m v (Xe l m j))).length=256:=Kt (by rw[hlen];decide)
  rw[Wu]
  generalize Pn t leaf m v l q bs j=y at a1 a2 a3 ⊢
  generalize hx:Yl 2 ((q+j:Nat):Int) (nodB t leaf m v (Xe l m j))=x at hsl ⊢
  have hk:q+j<y.length/256:=by rw[a1];omega
  refine⟨?_,fun i hi=>?_,fun z hz=>?_⟩
  ·rw[Qc (by rw[hsl,a1];omega),a1]
  ·by_cases e:i=j
   ·subst e;rw[hx];exact Zeu hsl hk
   ·rw[Ua hsl hk (by omega) (by omega)];exact a2 i (by omega)
  ·rw[Ua hsl hk (by omega) (by omega)];exact a3 z hz
theorem Me{t:Int}(h1:1≤t)(h2:t≤5)(n:Nat):∀ (u:List Ent) (q:Nat) (bs:List UInt8),u.length=n→1≤n→EntsOk 4 u→(q+((Gp n).sum-n))*256≤bs.length→(Vh t u q bs).2.length=bs.length∧∀ x,x<q→Ko (Vh t u q bs).2 x=Ko bs x:=by
 induction n using Nat.strongRecOn with
 | _ n ih =>
  intro u q bs hn h1n E hq
  subst hn
  by_cases h:u.length≤1
  ·rw[Ji h];exact⟨rfl,fun _ _=>rfl⟩
  ·have h18:=ov18 (x:=u.length) (by omega)
   have hp:=Yz u.length 18
   have hlm:(Gp u.length).sum=u.length+(Gp (ovN u.length 18)).sum:=by rw[Kf h];rfl
   have hg:=Jl (ovN u.length 18)
   rw[Vl h]
   obtain⟨a1,a2,a3⟩:=Vx (t:=t) (leaf:=false) (m:=18) (v:=4) (l:=u) (q:=q) (bs:=bs) E h1 h2 rfl rfl (fun _=>by omega) (ovN u.length 18) (Nat.le_refl _) (by omega)
   obtain⟨b1,b2⟩:=ih (ovN u.length 18) (by omega) (upE u 18 q (ovN u.length 18)) (q+ovN u.length 18) (Pn t false 18 4 u q bs (ovN u.length 18)) (Ya _ _ _ _) hp (Dp E (by decide)) (by rw[a1];omega)
   exact⟨by rw[b1,a1],fun x hx=>by rw[b2 x (by omega),a3 x hx]⟩
theorem Fk{t:Int}{leaf:Bool}{n m v:Nat}{K:List Int}{Vs:List (List UInt8)}(N:NodeOk t leaf n m v K Vs):Kr K:=by
 intro k hk hk1
 rw[N.hK] at hk
 have:=N.hk1 (k-1) (by omega)
 rw[show k-1+1=k by omega] at this
 simpa [List.getD] using this
theorem look_ok{F:List UInt8}{way:List Int}{no t lo hi deep:Int}(hw:way.length<16)(hway:∀ y∈way,no≠y)(he:Xc F no t=0)(hr:Qg lo hi=true)(hs:Kr (Xt F no))(hk:∀ x∈Xt F no,lo≤x∧x<hi)
 (hd:Xm (inB F no)=true→deep=0∨deep=((way.length+1:Nat):Int)):Zx F way no t lo hi deep=0:=by
 have hf:Yp lo hi (Xt F no)=0:=by unfold Yp;rw[if_pos hr,if_pos hs,if_pos hk]
 have hh:Qu way no=false:=by
  unfold Qu;rw[List.any_eq_false]
  intro y hy
  simpa using hway y hy
 unfold Zx
 rw[if_neg (by rw[hh];simp),if_neg (by omega),if_neg (by rw[he];simp)]
 unfold Xt at hf
 rw[if_neg (by rw[hf];simp),if_neg (by rintro⟨a,b,c⟩;rcases hd a with h|h;exact b h;exact c h)]
structure Lev(F:List UInt8)(t fuel:Int)(h n base:Nat)(X:Nat→List (Int×List UInt8))(C:Nat→Nat):Prop where
 one:∀ i,i<n→1≤C i
 go:∀ i,i<n→∀ (d:Nat) (way:List Int) (lo hi:Int) (s:WS),h+1≤d→way.length+h+1≤16→(∀ y∈way,((base+n:Nat):Int)≤y)→Qg lo hi=true→(∀ x∈X i,lo≤x.1∧x.1<hi)→s.dry=false→((s.looked+C i:Nat):Int)≤fuel→(s.deep=0∨s.deep=((way.length+h+1:Nat):Int)) →
  ∃ (es:List Ent) (bl:List Int),es.map kvE=X i∧bl.length=C i∧Zz F t fuel d way ((base+i:Nat):Int) lo hi s={ s with es:=s.es++es,bs:=s.bs++bl,deep:=((way.length+h+1:Nat):Int),looked:=s.looked+C i }
theorem leaf_kv{c:List Ent}{no:Int}:(Kp (Qr c) (Jd c) no c.length).map kvE=c.map kvE:=by
 unfold Kp
 apply List.ext_getElem?
 intro j
 by_cases h:j<c.length
 ·simp[Qr,Jd,kvE,List.getD,h]
 ·rw[List.getElem?_eq_none (by simp;omega),List.getElem?_eq_none (by simp;omega)]
theorem lev_leaf{F:List UInt8}{t fuel:Int}{l:List Ent}{base len m v:Nat}(hm:Vz t true=m)(hv:Ue t true=v)(E:EntsOk v l)(h1:1≤t)(h2:t≤5)(hF:LaidF F t true m v l base)(hl:F.length=len)(hb:(base+ovN l.length m)*256≤len)(h4:base+ovN l.length m≤14400) :
  Lev F t fuel 0 (ovN l.length m) base (fun i=>(Xe l m i).map kvE) (fun _=>1) where
 one _ _:=Nat.le_refl _
 go i hi d way lo hi' s hd hw hway hr hX hdry hfu hdeep:=by
  obtain⟨d',rfl⟩:∃ d',d=d'+1:=⟨d-1,by omega⟩
  have N:=Pm E h1 h2 hm hv (fun h=>by cases h) hi
  have B:=Iq N
  obtain⟨he,hin⟩:=Ze5 N hl (by omega) (by omega) (hF i hi) t (.inr rfl)
  have hC:Zn (inB F ((base+i:Nat):Int))=(Xe l m i).length:=by rw[hin];exact B.c
  have hK:Xt F ((base+i:Nat):Int)=Qr (Xe l m i):=by unfold Xt;rw[hC,hin];exact B.k
  have hV:Qv F ((base+i:Nat):Int)=Jd (Xe l m i):=by unfold Qv;rw[hC,hin];exact B.v
  have hL:Xm (inB F ((base+i:Nat):Int))=true:=by rw[hin];exact B.l
  have hk:∀ x∈Qr (Xe l m i),lo≤x∧x<hi':=by
   intro x hx
   obtain⟨y,hy,rfl⟩:=List.mem_map.1 hx
   exact hX (kvE y) (List.mem_map.2 ⟨y,hy,rfl⟩)
  have hlook:Zx F way ((base+i:Nat):Int) t lo hi' s.deep=0:=look_ok (by omega) (fun y hy=>by have:=hway y hy;omega) he hr (by rw[hK];exact Fk N) (by rw[hK];exact hk) fun _=>hdeep
  refine⟨Kp (Qr (Xe l m i)) (Jd (Xe l m i)) ((base+i:Nat):Int) (Xe l m i).length,[((base+i:Nat):Int)],leaf_kv,rfl,?_⟩
  unfold Zz
  rw[if_neg (by omega),if_neg (by rw[hlook];simp),if_pos hL,hC,hK,hV]
theorem sum_rng_le{f:Nat→Nat}{a b:Nat}(h:a≤b):((List.range a).map f).sum≤((List.range b).map f).sum:=by
 obtain⟨d,rfl⟩:∃ d,b=a+d:=⟨b-a,by omega⟩
 rw[List.range_add,List.map_append,List.sum_append];omega
theorem part_snd{hi:Int}{K:List Int}{k:Nat}(hk:k<K.length):(k+1<K.length∧(Xb hi K k).2=K.getD (k+1) 0)∨(k+1=K.length∧(Xb hi K k).2=hi):=by
 by_cases q:k+1<K.length
 ·left;exact⟨q,by simp[Xb,List.getD,q]⟩
 ·right;exact⟨by omega,by simp only[Xb];rw[List.getElem?_eq_none (by omega)];rfl⟩
theorem lev_loop{F:List UInt8}{t fuel:Int}{h n base:Nat}{X:Nat→List (Int×List UInt8)}{C:Nat→Nat}(L:Lev F t fuel h n base X C){way:List Int}{no hi':Int}{s0:WS}{z a d':Nat}(K:List Int)(hK:Xt F no=K)(hKl:K.length=z)(hidx:a+z≤n)
  (hval:∀ k,k<z→(Qv F no).getD k []=leB ((base+(a+k):Nat):Int) 4) (hkk:∀ k,k<z→∃ v r,X (a+k)=(K.getD k 0,v)::r) (hs:∀ a b,a<b→b<n→∀ x∈X a,∀ y∈X b,x.1<y.1) (hs1:∀ a,a<n→(X a).Pairwise fun x y=>x.1<y.1)
  (hk0:∀ k,k<z→0≤K.getD k 0∧K.getD k 0<hi') (hk1:∀ k,k+1<z→K.getD k 0<K.getD (k+1) 0) (hX2:∀ k,k<z→∀ x∈X (a+k),x.1<hi') (hhi:hi'≤281474976710656) (hb1:1≤base) (h4:base+n≤14400) (hd:h+1≤d') (hw:way.length+1+h+1≤16) (hway:∀ y∈way,((base+n:Nat):Int)≤y) (hno:((base+n:Nat):Int)≤no)
  (hdry:s0.dry=false) (hdeep:s0.deep=0∨s0.deep=((way.length+(h+1)+1:Nat):Int)) (hfu:((s0.looked+((List.range z).map fun j=>C (a+j)).sum:Nat):Int)≤fuel) (k:Nat) :
  k≤z→∃ (es:List Ent) (bl:List Int),es.map kvE=((List.range k).flatMap fun j=>X (a+j))∧bl.length=((List.range k).map fun j=>C (a+j)).sum ∧
    Yi (Zz F t fuel d') F way no hi' k s0={ s0 with es:=s0.es++es,bs:=s0.bs++bl,deep:=if k=0 then s0.deep else((way.length+(h+1)+1:Nat):Int),looked:=s0.looked+((List.range k).map fun j=>C (a+j)).sum }:=by
 induction k with
 | zero=>exact fun _=>⟨[],[],rfl,rfl,by simp[Yi]⟩
 | succ k ih =>
  intro hk1z
  obtain⟨es,bl,e1,e2,e3⟩:=ih (by omega)
  have hkl:k<z:=by omega
  obtain⟨r1,r2⟩:=root_leB (q:=base+(a+k)) (by omega) (by omega)
  have hp1:(Xb hi' (Xt F no) k).1=K.getD k 0:=by rw[hK];rfl
  have hp2:=part_snd (hi:=hi') (K:=K) (k:=k) (by omega)
  rw[←hK] at hp2
  have hx1:∀ x∈X (a+k),K.getD k 0≤x.1:=by
   intro x hx
   obtain⟨v,r,hv⟩:=hkk k hkl
   have hpw:=hs1 (a+k) (by omega)
   rw[hv] at hx hpw
   rcases List.mem_cons.1 hx with rfl|hx
   ·exact Int.le_refl _
   ·exact Int.le_of_lt ((List.pairwise_cons.1 hpw).1 x hx)
  have hx2:∀ x∈X (a+k),x.1<(Xb hi' (Xt F no) k).2:=by
   intro x hx
   rcases hp2 with ⟨q1,q2⟩|⟨q1,q2⟩
   ·rw[hK] at q1
    obtain⟨v,r,hv⟩:=hkk (k+1) (by omega)
    rw[q2,hK]
    exact hs (a+k) (a+(k+1)) (by omega) (by omega) x hx (K.getD (k+1) 0,v) (by rw[hv];exact List.mem_cons_self)
   ·rw[q2];exact hX2 k hkl x hx
  have hr2:Qg (Xb hi' (Xt F no) k).1 (Xb hi' (Xt F no) k).2=true:=by
   have g0:=hk0 k hkl
   refine decide_eq_true ?_
   rw[hp1]
   rcases hp2 with ⟨q1,q2⟩|⟨q1,q2⟩
   ·rw[hK] at q1
    rw[q2,hK]
    have g1:=hk1 k (by omega)
    have g2:=hk0 (k+1) (by omega)
    omega
   ·rw[q2];omega
  have hsum:=sum_rng_le (f:=fun j=>C (a+j)) (show k+1≤z from hk1z)
  have hsucc:((List.range (k+1)).map fun j=>C (a+j)).sum=((List.range k).map fun j=>C (a+j)).sum+C (a+k):=by rw[List.range_succ,List.map_append,List.sum_append];simp
  rw[hsucc] at hsum
  have hfk:((s0.looked+((List.range k).map fun j=>C (a+j)).sum+C (a+k):Nat):Int)≤fuel:=by omega
  have hwl:(way++[no]).length=way.length+1:=by simp
  obtain⟨es2,bl2,g1,g2,g3⟩:=L.go (a+k) (by omega) d' (way++[no]) (Xb hi' (Xt F no) k).1 (Xb hi' (Xt F no) k).2 { s0 with es:=s0.es++es,bs:=s0.bs++bl,deep:=if k=0 then s0.deep else((way.length+(h+1)+1:Nat):Int),looked:=s0.looked+((List.range k).map fun j=>C (a+j)).sum } hd (by rw[hwl];omega) (by
    intro y hy
    rcases List.mem_append.1 hy with q|q
    ·exact hway y q
    ·rw[List.mem_singleton.1 q];exact hno) hr2 (fun x hx=>⟨by rw[hp1];exact hx1 x hx,hx2 x hx⟩) hdry hfk (by
    rw[hwl,show way.length+1+h+1=way.length+(h+1)+1 by omega]
    by_cases q:k=0
    ·rcases hdeep with d|d
     ·exact .inl (by show(if k=0 then s0.deep else _)=0;rw[if_pos q];exact d)
     ·exact .inr (by show(if k=0 then s0.deep else _)=_;rw[if_pos q];exact d)
    ·exact .inr (by show(if k=0 then s0.deep else _)=_;rw[if_neg q]))
  refine⟨es++es2,bl++bl2,?_,?_,?_⟩
  ·rw[List.map_append,e1,g1,List.range_succ,List.flatMap_append];simp
  ·rw[List.length_append,e2,g2,hsucc]
  ·rw[Wa,e3]
   unfold Nf
   rw[if_neg (by rw[hdry];simp)]
   unfold Jf
   rw[hval k hkl,if_pos r1,r2,g3,hsucc,if_neg (Nat.succ_ne_zero k),hwl,show way.length+1+h+1=way.length+(h+1)+1 by omega,List.append_assoc,List.append_assoc]
   simp only[WS.mk.injEq,true_and,and_true]
   omega
theorem lev_inner{F:List UInt8}{t fuel:Int}{h n base len:Nat}{X:Nat→List (Int×List UInt8)}{C:Nat→Nat}{u:List Ent}(L:Lev F t fuel h n base X C)(hn:u.length=n)(hu:∀ k,k<n→(u.getD k Xg).2.1=leB ((base+k:Nat):Int) 4)(hh:∀ k,k<n→∃ v r,X k=((u.getD k Xg).1,v)::r)
  (hs:∀ a b,a<b→b<n→∀ x∈X a,∀ y∈X b,x.1<y.1) (hs1:∀ a,a<n→(X a).Pairwise fun x y=>x.1<y.1) (E:EntsOk 4 u) (h1:1≤t) (h2:t≤5) (hn1:1≤n) (hb1:1≤base) (hF:LaidF F t false 18 4 u (base+n)) (hl:F.length=len) (hb:(base+n+ovN n 18)*256≤len) (h4:base+n+ovN n 18≤14400) :
  Lev F t fuel (h+1) (ovN n 18) (base+n) (fun i=>(List.range (Yx n 18 i)).flatMap fun j=>X (i*18+j)) (fun i=>1+((List.range (Yx n 18 i)).map fun j=>C (i*18+j)).sum) where
 one _ _:=Nat.le_add_right _ _
 go i hi d way lo hi' s hd hw hway hr hX hdry hfu hdeep:=by
  subst hn
  obtain⟨d',rfl⟩:∃ d',d=d'+1:=⟨d-1,by omega⟩
  have N:=Pm E h1 h2 (leaf:=false) (m:=18) (v:=4) rfl rfl (fun _=>hn1) hi
  have B:=Iq N
  obtain⟨he,hin⟩:=Ze5 N hl (by omega) (by omega) (hF i hi) t (.inr rfl)
  have hilt:=Zfv (m:=18) (by decide) hn1 hi
  have hzl:=Jw u 18 i
  have hget:∀ j,j<Yx u.length 18 i→(Xe u 18 i).getD j Xg=u.getD (i*18+j) Xg:=fun j hj=>Jt hj
  have hz1:1≤Yx u.length 18 i:=by unfold Yx;omega
  have hz2:i*18+Yx u.length 18 i≤u.length:=by unfold Yx;omega
  replace hX:∀ x∈(List.range (Yx u.length 18 i)).flatMap (fun j=>X (i*18+j)),lo≤x.1∧x.1<hi':=hX
  replace hfu:((s.looked+(1+((List.range (Yx u.length 18 i)).map fun j=>C (i*18+j)).sum):Nat):Int)≤fuel:=hfu
  show ∃ (es:List Ent) (bl:List Int),es.map kvE=(List.range (Yx u.length 18 i)).flatMap (fun j=>X (i*18+j))∧bl.length=1+((List.range (Yx u.length 18 i)).map fun j=>C (i*18+j)).sum∧Zz F t fuel (d'+1) way ((base+u.length+i:Nat):Int) lo hi' s={ s with es:=s.es++es,bs:=s.bs++bl,deep:=((way.length+(h+1)+1:Nat):Int),looked:=s.looked+(1+((List.range (Yx u.length 18 i)).map fun j=>C (i*18+j)).sum) }
  generalize Yx u.length 18 i=z at hzl hget hz1 hz2 hX hfu ⊢
  obtain⟨no,hno⟩:∃ no:Int,no=((base+u.length+i:Nat):Int):=⟨_,rfl⟩
  rw[←hno] at he hin ⊢
  have hC:Zn (inB F no)=(Xe u 18 i).length:=by rw[hin];exact B.c
  have hK:Xt F no=Qr (Xe u 18 i):=by unfold Xt;rw[hC,hin];exact B.k
  have hV:Qv F no=Jd (Xe u 18 i):=by unfold Qv;rw[hC,hin];exact B.v
  have hL:Xm (inB F no)=false:=by rw[hin];exact B.l
  have hKl:(Qr (Xe u 18 i)).length=z:=by rw[Wx,hzl]
  have hVl:(Jd (Xe u 18 i)).length=z:=by rw[Er,hzl]
  have key:∀ j,j<z→(Qr (Xe u 18 i)).getD j 0=(u.getD (i*18+j) Xg).1:=fun j hj=>by rw[Fm (by rw[hzl];exact hj),hget j hj]
  have vals:∀ j,j<z→(Jd (Xe u 18 i)).getD j []=(u.getD (i*18+j) Xg).2.1:=fun j hj=>by rw[Zal (by rw[hzl];exact hj),hget j hj]
  have hkk0:∀ j,j<z→0≤(Qr (Xe u 18 i)).getD j 0∧(Qr (Xe u 18 i)).getD j 0≤281474976710655:=fun j hj=>N.hk0 j (by rw[hzl];exact hj)
  have hkk1:∀ j,j+1<z→(Qr (Xe u 18 i)).getD j 0<(Qr (Xe u 18 i)).getD (j+1) 0:=fun j hj=>N.hk1 j (by rw[hzl];exact hj)
  have hsort:=Fk N
  have hcz:(Xe u 18 i).length=z:=hzl
  generalize Qr (Xe u 18 i)=K at hK hKl key hkk0 hkk1 hsort
  generalize Jd (Xe u 18 i)=Vs at hV hVl vals
  rw[hcz] at hC
  have hX2:∀ j,j<z→∀ x∈X (i*18+j),lo≤x.1∧x.1<hi':=fun j hj x hx=>hX x (List.mem_flatMap.2 ⟨j,List.mem_range.2 hj,hx⟩)
  have hhead:∀ j,j<z→∃ v r,X (i*18+j)=(K.getD j 0,v)::r:=fun j hj=>by rw[key j hj];exact hh _ (by omega)
  have hkb:∀ j,j<z→lo≤K.getD j 0∧K.getD j 0<hi':=by
   intro j hj
   obtain⟨v,r,hv⟩:=hhead j hj
   exact hX2 j hj (K.getD j 0,v) (by rw[hv];exact List.mem_cons_self)
  have hk:∀ x∈K,lo≤x∧x<hi':=by
   intro x hx
   obtain⟨j,hj,rfl⟩:=List.mem_iff_getElem.1 hx
   have:=hkb j (by omega)
   simpa [List.getD,hj] using this
  have hrb:=of_decide_eq_true hr
  have hlook:Zx F way no t lo hi' s.deep=0:=look_ok (by omega) (fun y hy=>by have:=hway y hy;omega) he hr (by rw[hK];exact hsort) (by rw[hK];exact hk) fun q=>by rw[hL] at q;cases q
  obtain⟨es,bl,e1,e2,e3⟩:=lev_loop L (way:=way) (no:=no) (hi':=hi') (s0:={ s with looked:=s.looked+1,bs:=s.bs++[no] }) (z:=z) (a:=i*18) (d':=d') K hK hKl hz2
   (fun k hk=>by rw[hV,vals k hk];exact hu _ (by omega)) hhead hs hs1 (fun k hk=>⟨(hkk0 k hk).1,(hkb k hk).2⟩) hkk1 (fun k hk x hx=>(hX2 k hk x hx).2) hrb.2.2 hb1 (by omega) (by omega) (by omega) (fun y hy=>by have:=hway y hy;omega) (by omega) hdry (by rw[show way.length+(h+1)+1=way.length+(h+1)+1 from rfl];exact hdeep) (by simp only;omega) z (Nat.le_refl _)
  refine⟨es,no::bl,e1,by rw[List.length_cons,e2];omega,?_⟩
  unfold Zz
  rw[if_neg (by omega),if_neg (by rw[hlook];simp),if_neg (by rw[hL];simp),hC,e3,if_neg (by omega)]
  simp only[WS.mk.injEq,List.append_assoc,List.singleton_append,true_and,and_true]
  omega
theorem Ad{n m:Nat}(hm:1≤m)(C:Nat→Nat):∀ j,j≤ovN n m→((List.range j).map fun i=>1+((List.range (Yx n m i)).map fun k=>C (i*m+k)).sum).sum=j+((List.range (min (j*m) n)).map C).sum
 | 0,_=>by simp
 | j+1,hj=>by
  have hle:=Zb5 hm (show j<ovN n m by omega)
  have e:min ((j+1)*m) n=j*m+Yx n m j:=by unfold Yx;rw[Nat.add_mul,Nat.one_mul];omega
  rw[List.range_succ,List.map_append,List.sum_append,Ad hm C j (by omega),e,List.range_add,List.map_append,List.sum_append,Nat.min_eq_left hle]
  simp only[List.map_cons,List.map_nil,List.sum_cons,List.sum_nil,List.map_map]
  have:((List.range (Yx n m j)).map fun k=>C (j*m+k))=(List.range (Yx n m j)).map (C ∘ fun x=>j*m+x):=rfl
  rw[this];omega
theorem Rc{α:Type}{n m:Nat}(hm:1≤m)(X:Nat→List α):∀ j,j≤ovN n m→((List.range j).flatMap fun i=>(List.range (Yx n m i)).flatMap fun k=>X (i*m+k))=(List.range (min (j*m) n)).flatMap X
 | 0,_=>by simp
 | j+1,hj=>by
  have hle:=Zb5 hm (show j<ovN n m by omega)
  have e:min ((j+1)*m) n=j*m+Yx n m j:=by unfold Yx;rw[Nat.add_mul,Nat.one_mul];omega
  rw[List.range_succ,List.flatMap_append,Rc hm X j (by omega),e,List.range_add,List.flatMap_append,Nat.min_eq_left hle]
  simp[List.flatMap_map]
theorem ov_all{n m:Nat}(hm:1≤m):min (ovN n m*m) n=n:=by
 have h:=Nat.div_add_mod (n+m-1) m
 have h2:=Nat.mod_lt (n+m-1) (show 0<m by omega)
 have h3:(n+m-1)/m*m≤ovN n m*m:=Nat.mul_le_mul_right m (by unfold ovN;omega)
 rw[Nat.mul_comm] at h
 omega
def Zes(X:List (Int×List UInt8))(total deep:Nat)(w:WS):Prop:=∃ (es:List Ent) (bl:List Int),es.map kvE=X∧bl.length=total∧w=⟨es,bl,(deep:Int),total,[],false⟩
theorem Zds{t fuel:Int}(h1:1≤t)(h2:t≤5)(n:Nat):∀ (u:List Ent) (h base:Nat) (bs F:List UInt8) (X:Nat→List (Int×List UInt8)) (C:Nat→Nat),u.length=n→1≤n→EntsOk 4 u→(∀ k,k<n→(u.getD k Xg).2.1=leB ((base+k:Nat):Int) 4∧(u.getD k Xg).2.2=((base+k:Nat):Int)) →
 (2≤n→∀ k,k<n→∃ v r,X k=((u.getD k Xg).1,v)::r)→(∀ a b,a<b→b<n→∀ x∈X a,∀ y∈X b,x.1<y.1)→(∀ a,a<n→(X a).Pairwise fun x y=>x.1<y.1)→F=(Vh t u (base+n) bs).2→1≤base→(base+n+((Gp n).sum-n))*256≤bs.length→base+n+((Gp n).sum-n)≤14400→Lev F t fuel h n base X C→h+(Gp n).length≤16 →
 (∀ k,k<n→∀ x∈X k,0≤x.1∧x.1<281474976710656)→((((List.range n).map C).sum+((Gp n).sum-n):Nat):Int)≤fuel →
 Zes ((List.range n).flatMap X) (((List.range n).map C).sum+((Gp n).sum-n)) (h+(Gp n).length) (Zg F (Vh t u (base+n) bs).1 t fuel):=by
 induction n using Nat.strongRecOn with
 | _ n ih =>
  intro u h base bs F X C hn hn1 E hu hh hs hs1 hF hb1 hbs h4 L hdep hX hfu
  subst hn
  by_cases h9:u.length≤1
  ·have h10:u.length=1:=by omega
   have hl1:Gp u.length=[1]:=by rw[Jq h9,h10]
   rw[hl1] at hdep hfu ⊢
   rw[h10] at hfu ⊢
   simp only[List.length_cons,List.length_nil,List.sum_cons,List.sum_nil,List.range_one,List.map_cons,List.map_nil,List.flatMap_cons,List.flatMap_nil,List.append_nil,Nat.sub_self,Nat.add_zero] at hdep hfu ⊢
   rw[Ji h9,(hu 0 (by omega)).2]
   obtain⟨es,bl,e1,e2,e3⟩:=L.go 0 (by omega) 17 [] 0 281474976710656 ws0 (by omega) (by simp;omega) (fun y hy=>by cases hy) (by decide) (fun x hx=>hX 0 (by omega) x hx) rfl (by simp only[ws0];omega) (.inl rfl)
   refine⟨es,bl,e1,e2,?_⟩
   unfold Zg
   rw[e3]
   simp[ws0]
  ·have h18:=ov18 (x:=u.length) (by omega)
   have hp:=Yz u.length 18
   have hlm:Gp u.length=u.length::Gp (ovN u.length 18):=Kf h9
   have hg:=Jl (ovN u.length 18)
   rw[hlm] at hbs h4 hdep hfu
   simp only[List.sum_cons,List.length_cons] at hbs h4 hdep hfu
   obtain⟨a1,a2,a3⟩:=Vx (t:=t) (leaf:=false) (m:=18) (v:=4) (l:=u) (q:=base+u.length) (bs:=bs) E h1 h2 rfl rfl (fun _=>by omega) (ovN u.length 18) (Nat.le_refl _) (by omega)
   obtain⟨b1,b2⟩:=Me (t:=t) h1 h2 (ovN u.length 18) (upE u 18 (base+u.length) (ovN u.length 18)) (base+u.length+ovN u.length 18) (Pn t false 18 4 u (base+u.length) bs (ovN u.length 18)) (Ya _ _ _ _) hp (Dp E (by decide)) (by rw[a1];omega)
   have hF2:F=(Vh t (upE u 18 (base+u.length) (ovN u.length 18)) (base+u.length+ovN u.length 18) (Pn t false 18 4 u (base+u.length) bs (ovN u.length 18))).2:=by rw[hF,Vl h9]
   have hlen:F.length=bs.length:=by rw[hF2,b1,a1]
   have hLaid:LaidF F t false 18 4 u (base+u.length):=by
    intro i hi
    rw[hF2,b2 _ (by omega)];exact a2 i hi
   have L2:=lev_inner L rfl (fun k hk=>(hu k hk).1) (hh (by omega)) hs hs1 E h1 h2 hn1 hb1 hLaid hlen (by omega) (by omega)
   have hsz:∀ i,Yx u.length 18 i=min 18 (u.length-i*18):=fun i=>rfl
   have hsl:∀ i,i<ovN u.length 18→i*18<u.length:=fun i hi=>Zfv (by decide) hn1 hi
   have hall:=ov_all (n:=u.length) (m:=18) (by decide)
   have hsum:=Ad (n:=u.length) (m:=18) (by decide) C (ovN u.length 18) (Nat.le_refl _)
   have hflat:=Rc (n:=u.length) (m:=18) (by decide) X (ovN u.length 18) (Nat.le_refl _)
   rw[hall] at hsum hflat
   have key:=ih (ovN u.length 18) (by omega) (upE u 18 (base+u.length) (ovN u.length 18)) (h+1) (base+u.length) (Pn t false 18 4 u (base+u.length) bs (ovN u.length 18)) F (fun i=>(List.range (Yx u.length 18 i)).flatMap fun j=>X (i*18+j)) (fun i=>1+((List.range (Yx u.length 18 i)).map fun j=>C (i*18+j)).sum) (Ya _ _ _ _) hp (Dp E (by decide)) (fun k hk=>by rw[Uc hk];exact⟨rfl,rfl⟩)
    (fun _ k hk=>by
     obtain⟨v,r,hv⟩:=hh (by omega) (k*18) (hsl k hk)
     obtain⟨z,hz⟩:∃ z,Yx u.length 18 k=z+1:=⟨Yx u.length 18 k-1,by have:=hsl k hk;rw[hsz];omega⟩
     refine⟨v,r++(List.range z).flatMap fun j=>X (k*18+(j+1)),?_⟩
     show(List.range (Yx u.length 18 k)).flatMap _=_
     rw[hz,List.range_succ_eq_map,List.flatMap_cons,Nat.add_zero,hv,Uc hk,(Zak (v:=4) (by decide) hn1 hk).1,List.flatMap_map]
     rfl)
    (fun a b hab hb x hx y hy=>by
     obtain⟨j,hj,hx⟩:=List.mem_flatMap.1 hx
     obtain⟨j2,hj2,hy⟩:=List.mem_flatMap.1 hy
     have hj:=List.mem_range.1 hj
     have hj2:=List.mem_range.1 hj2
     rw[hsz] at hj hj2
     have:(a+1)*18≤b*18:=Nat.mul_le_mul_right 18 hab
     exact hs (a*18+j) (b*18+j2) (by omega) (by omega) x hx y hy)
    (fun a ha=>by
     refine List.pairwise_flatMap.2 ⟨fun j hj=>?_,?_⟩
     ·have hj:=List.mem_range.1 hj
      rw[hsz] at hj
      exact hs1 _ (by omega)
     ·refine List.Pairwise.imp_of_mem ?_ (List.pairwise_lt_range)
      intro j j2 hj hj2 hlt x hx y hy
      have hj2:=List.mem_range.1 hj2
      rw[hsz] at hj2
      exact hs (a*18+j) (a*18+j2) (by omega) (by omega) x hx y hy)
    hF2 (by omega) (by rw[a1];omega) (by omega) L2 (by omega)
    (fun k hk x hx=>by
     obtain⟨j,hj,hx⟩:=List.mem_flatMap.1 hx
     have hj:=List.mem_range.1 hj
     rw[hsz] at hj
     exact hX _ (by omega) x hx)
    (by rw[hsum];omega)
   rw[hsum,hflat] at key
   rw[Vl h9,hlm,List.sum_cons,List.length_cons]
   have e1:ovN u.length 18+((List.range u.length).map C).sum+((Gp (ovN u.length 18)).sum-ovN u.length 18)=((List.range u.length).map C).sum+(u.length+(Gp (ovN u.length 18)).sum-u.length):=by omega
   have e2:h+1+(Gp (ovN u.length 18)).length=h+((Gp (ovN u.length 18)).length+1):=by omega
   rw[e1,e2] at key
   exact key
theorem Ig:∀ (k x:Nat),x≤18 ^ k→(Gp x).length≤k+1
 | 0,x,h=>by rw[Jq (by simpa using h)];simp
 | k+1,x,h=>by
  by_cases h1:x≤1
  ·rw[Jq h1];simp
  ·rw[Kf h1,List.length_cons]
   have:ovN x 18≤18 ^ k:=by
    rw[Nat.pow_succ] at h
    have hp:0<18 ^ k:=Nat.pow_pos (by decide)
    unfold ovN
    have:(x+18-1)/18≤18 ^ k:=by
     rw[Nat.div_le_iff_le_mul_add_pred (by decide)];omega
    omega
   have:=Ig k _ this
   omega
theorem As{l:List Ent}{m:Nat}:∀ j,((List.range j).flatMap fun i=>(Xe l m i).map kvE)=(l.take (j*m)).map kvE
 | 0=>by simp
 | j+1=>by
  rw[List.range_succ,List.flatMap_append,As j,Nat.add_mul,Nat.one_mul,List.take_add,List.map_append]
  simp[Xe]
theorem sum_one(n:Nat):((List.range n).map fun _=>1).sum=n:=by
 induction n with
 | zero=>rfl
 | succ n ih=>rw[List.range_succ,List.map_append,List.sum_append,ih];simp
theorem Sz{t fuel:Int}{l:List Ent}{q:Nat}{bs:List UInt8}(h1:1≤t)(h2:t≤5)(E:EntsOk (Ue t true) l)(hn:l.length≤32768)(hq:1≤q)(hbs:(q+Qk t l.length)*256≤bs.length)(h4:q+Qk t l.length≤14400)(hfu:(Qk t l.length:Int)≤fuel) :
 Zes (l.map kvE) (Qk t l.length) (Hg t l.length).length (Zg (Yq t l q bs).2 (Yq t l q bs).1 t fuel):=by
 obtain⟨m,hm⟩:∃ m,Vz t true=m:=⟨_,rfl⟩
 obtain⟨v,hv⟩:∃ v,Ue t true=v:=⟨_,rfl⟩
 have hmb:=Qd t true
 have h6:6≤Vz t true:=by
  unfold Vz;repeat' split
  all_goals first|decide|simp_all
 have hop:=Yz l.length m
 have hg:=Jl (ovN l.length m)
 have hN:Qk t l.length=(Gp (ovN l.length m)).sum:=by unfold Qk Hg;rw[hm]
 have hT:Yq t l q bs=Vh t (upE l m q (ovN l.length m)) (q+ovN l.length m) (Pn t true m v l q bs (ovN l.length m)):=by unfold Yq;rw[hm,hv]
 have hD:(Hg t l.length).length=0+(Gp (ovN l.length m)).length:=by unfold Hg;rw[hm,Nat.zero_add]
 rw[hv] at E
 rw[hm] at hmb h6
 rw[hN] at hbs h4 hfu ⊢
 rw[hD,hT]
 obtain⟨a1,a2,a3⟩:=Vx (t:=t) (leaf:=true) (m:=m) (v:=v) (l:=l) (q:=q) (bs:=bs) E h1 h2 hm hv (fun h=>by cases h) (ovN l.length m) (Nat.le_refl _) (by omega)
 obtain⟨b1,b2⟩:=Me (t:=t) h1 h2 (ovN l.length m) (upE l m q (ovN l.length m)) (q+ovN l.length m) (Pn t true m v l q bs (ovN l.length m)) (Ya _ _ _ _) hop (Dp E hmb.1) (by rw[a1];omega)
 have hlen:(Vh t (upE l m q (ovN l.length m)) (q+ovN l.length m) (Pn t true m v l q bs (ovN l.length m))).2.length=bs.length:=by rw[b1,a1]
 have hLaid:LaidF (Vh t (upE l m q (ovN l.length m)) (q+ovN l.length m) (Pn t true m v l q bs (ovN l.length m))).2 t true m v l q:=by
   intro i hi
   rw[b2 _ (by omega)];exact a2 i hi
 have L:=lev_leaf (fuel:=fuel) hm hv E h1 h2 hLaid hlen (by omega) (by omega)
 have hov:ovN l.length m≤5833:=by
   unfold ovN
   have:(l.length+m-1)/m≤5833:=by
    rw[Nat.div_le_iff_le_mul_add_pred (by omega)]
    have:=Nat.mul_le_mul_right 5833 h6
    omega
   omega
 have hdep:=Ig 4 (ovN l.length m) (Nat.le_trans hov (by decide))
 have hget:∀ {i j:Nat},j<Yx l.length m i→i*m+j<l.length:=fun {i j} hj=>by unfold Yx at hj;omega
 have hmem:∀ {i:Nat} {x:Int×List UInt8},x∈(Xe l m i).map kvE→∃ j,j<Yx l.length m i∧x=kvE (l.getD (i*m+j) Xg):=by
   intro i x hx
   obtain⟨y,hy,rfl⟩:=List.mem_map.1 hx
   obtain⟨j,hj,rfl⟩:=List.mem_iff_getElem.1 hy
   have hj2:j<Yx l.length m i:=by rw[←Jw];exact hj
   refine⟨j,hj2,?_⟩
   rw[←Jt hj2];simp[List.getD,hj]
 have key:=Zds (fuel:=fuel) h1 h2 (ovN l.length m) (upE l m q (ovN l.length m)) 0 q (Pn t true m v l q bs (ovN l.length m)) _ (fun i=>(Xe l m i).map kvE) (fun _=>1) (Ya _ _ _ _) hop (Dp E hmb.1) (fun k hk=>by rw[Uc hk];exact⟨rfl,rfl⟩)
   (fun h2n k hk=>by
    have hl1:1≤l.length:=by
     rcases Nat.eq_zero_or_pos l.length with q0|q0
     ·rw[q0] at h2n
      have:ovN 0 m=1:=by unfold ovN;rw[Nat.div_eq_of_lt (by omega)];rfl
      omega
     ·exact q0
    obtain⟨k1,k2⟩:=Zak (v:=v) (q:=q) hmb.1 hl1 hk
    have hz:0<Yx l.length m k:=by unfold Yx;omega
    rw[Uc hk,k1]
    have hc:=Jw l m k
    cases hcc:Xe l m k with
    | nil=>rw[hcc] at hc;simp at hc;omega
    | cons y r =>
     refine⟨y.2.1,r.map kvE,?_⟩
     have h0:=Jt (l:=l) (m:=m) (i:=k) (j:=0) hz
     rw[hcc,Nat.add_zero] at h0
     simp only[List.map_cons]
     have e0:y=l.getD (k*m) Xg:=by simpa [List.getD] using h0
     rw[e0];rfl)
   (fun a b hab hb x hx y hy=>by
    obtain⟨j,hj,rfl⟩:=hmem hx
    obtain⟨j2,hj2,rfl⟩:=hmem hy
    have:(a+1)*m≤b*m:=Nat.mul_le_mul_right m hab
    rw[Nat.add_mul,Nat.one_mul] at this
    have hjm:j<m:=by unfold Yx at hj;omega
    exact E.mono (a:=a*m+j) (b:=b*m+j2) (by omega) (hget hj2))
   (fun a ha=>by
    rw[List.pairwise_map]
    refine List.pairwise_iff_getElem.2 fun i j hi hj hij=>?_
    have hj2:j<Yx l.length m a:=by rw[←Jw];exact hj
    have e1:=Jt (l:=l) (m:=m) (i:=a) (j:=i) (by omega)
    have e2:=Jt (l:=l) (m:=m) (i:=a) (j:=j) hj2
    simp only[List.getD,List.getElem?_eq_getElem hi,List.getElem?_eq_getElem hj,Option.getD_some] at e1 e2
    show(Xe l m a)[i].1<(Xe l m a)[j].1
    rw[e1,e2]
    exact E.mono (a:=a*m+i) (b:=a*m+j) (by omega) (hget hj2))
   rfl hq (by rw[a1];omega) (by omega) L (by omega)
   (fun k hk x hx=>by
    obtain⟨j,hj,rfl⟩:=hmem hx
    have:=E.hk _ (hget hj)
    exact⟨this.1,by have:=this.2;simp only[kvE];omega⟩)
   (by rw[sum_one];omega)
 rw[sum_one,As] at key
 rw[show ovN l.length m+((Gp (ovN l.length m)).sum-ovN l.length m)=(Gp (ovN l.length m)).sum by omega] at key
 have hall:=ov_all (n:=l.length) (m:=m) hmb.1
 rw[List.take_of_length_le (by omega)] at key
 exact key
theorem putB_comm{l x y:List UInt8}{a b:Nat}(ha:a+x.length≤l.length)(hb:b+y.length≤l.length)(hd:a+x.length≤b∨b+y.length≤a):Ke (Ke l a x) b y=Ke (Ke l b y) a x:=by
 have e1:=Qc ha
 have e2:=Qc hb
 apply Mp
 ·rw[Qc (by rw[e1];exact hb),e1,Qc (by rw[e2];exact ha),e2]
 ·intro j hj
  rw[Kk (by rw[e1];exact hb),Kk ha,Kk (by rw[e2];exact ha),Kk hb]
  by_cases p:a≤j∧j<a+x.length
  ·rw[if_neg (by omega),if_pos p,if_pos p]
  ·rw[if_neg p,if_neg p]
theorem Zge{t:Int}{leaf:Bool}{m v:Nat}{l:List Ent}{q k:Nat}{bs x:List UInt8}(E:EntsOk v l)(h1:1≤t)(h2:t≤5)(hm:Vz t leaf=m)(hv:Ue t leaf=v)(hl:leaf=false→1≤l.length)(hx:x.length=256)(hk:(k+1)*256≤bs.length)(j:Nat) :
 j≤ovN l.length m→(q+j)*256≤bs.length→(k<q∨q+j≤k)→Ke (Pn t leaf m v l q bs j) (k*256) x=Pn t leaf m v l q (Ke bs (k*256) x) j:=by
 induction j with
 | zero=>exact fun _ _ _=>by simp only[Pn]
 | succ j ih =>
  intro hj hq hd
  have ih:=ih (by omega) (by omega) (by omega)
  have a1:=(Vx (t:=t) (leaf:=leaf) (m:=m) (v:=v) (l:=l) (q:=q) (bs:=bs) E h1 h2 hm hv hl j (by omega) (by omega)).1
  have hlen:=Eg (Pm E h1 h2 hm hv hl (show j<ovN l.length m by omega))
  have hsl:(Yl 2 ((q+j:Nat):Int) (nodB t leaf m v (Xe l m j))).length=256:=Kt (by rw[hlen];decide)
  rw[Wu,Wu,←ih]
  exact putB_comm (by rw[hsl,a1];omega) (by rw[hx,a1];omega) (by rw[hsl,hx];omega)
theorem treeUp_put{t:Int}(h1:1≤t)(h2:t≤5){k:Nat}{x:List UInt8}(hx:x.length=256)(n:Nat):∀ (u:List Ent) (q:Nat) (bs:List UInt8),u.length=n→1≤n→EntsOk 4 u→(q+((Gp n).sum-n))*256≤bs.length→(k+1)*256≤bs.length→(k<q∨q+((Gp n).sum-n)≤k) →
 Vh t u q (Ke bs (k*256) x)=((Vh t u q bs).1,Ke (Vh t u q bs).2 (k*256) x):=by
 induction n using Nat.strongRecOn with
 | _ n ih =>
  intro u q bs hn h1n E hq hk hd
  subst hn
  by_cases h:u.length≤1
  ·rw[Ji h,Ji h]
  ·have h18:=ov18 (x:=u.length) (by omega)
   have hp:=Yz u.length 18
   have hlm:(Gp u.length).sum=u.length+(Gp (ovN u.length 18)).sum:=by rw[Kf h];rfl
   have hg:=Jl (ovN u.length 18)
   rw[Vl h,Vl h]
   obtain⟨a1,a2,a3⟩:=Vx (t:=t) (leaf:=false) (m:=18) (v:=4) (l:=u) (q:=q) (bs:=bs) E h1 h2 rfl rfl (fun _=>by omega) (ovN u.length 18) (Nat.le_refl _) (by omega)
   rw[←Zge (leaf:=false) (m:=18) (v:=4) E h1 h2 rfl rfl (fun _=>by omega) hx hk (ovN u.length 18) (Nat.le_refl _) (by omega) (by omega)]
   exact ih (ovN u.length 18) (by omega) (upE u 18 q (ovN u.length 18)) (q+ovN u.length 18) _ (Ya _ _ _ _) hp (Dp E (by decide)) (by rw[a1];omega) (by rw[a1];exact hk) (by omega)
theorem treeB_put{t:Int}{l:List Ent}{q k:Nat}{bs x:List UInt8}(h1:1≤t)(h2:t≤5)(E:EntsOk (Ue t true) l)(hx:x.length=256)(hq:(q+Qk t l.length)*256≤bs.length)(hk:(k+1)*256≤bs.length)(hd:k<q∨q+Qk t l.length≤k) :
 Yq t l q (Ke bs (k*256) x)=((Yq t l q bs).1,Ke (Yq t l q bs).2 (k*256) x):=by
 obtain⟨m,hm⟩:∃ m,Vz t true=m:=⟨_,rfl⟩
 have hmb:=Qd t true
 have hop:=Yz l.length m
 have hg:=Jl (ovN l.length m)
 have hN:Qk t l.length=(Gp (ovN l.length m)).sum:=by unfold Qk Hg;rw[hm]
 rw[hm] at hmb
 rw[hN] at hq hd
 unfold Yq
 rw[hm]
 obtain⟨a1,a2,a3⟩:=Vx (t:=t) (leaf:=true) (m:=m) (v:=Ue t true) (l:=l) (q:=q) (bs:=bs) E h1 h2 hm rfl (fun h=>by cases h) (ovN l.length m) (Nat.le_refl _) (by omega)
 rw[←Zge E h1 h2 hm rfl (fun h=>by cases h) hx hk (ovN l.length m) (Nat.le_refl _) (by omega) (by omega)]
 exact treeUp_put h1 h2 hx (ovN l.length m) (upE l m q (ovN l.length m)) (q+ovN l.length m) _ (Ya _ _ _ _) hop (Dp E hmb.1) (by rw[a1];omega) (by rw[a1];exact hk) (by omega)
theorem Bu{t:Int}{l:List Ent}{q:Nat}{bs:List UInt8}(h1:1≤t)(h2:t≤5)(E:EntsOk (Ue t true) l)(hq:(q+Qk t l.length)*256≤bs.length):(Yq t l q bs).2.length=bs.length∧∀ x,x<q→Ko (Yq t l q bs).2 x=Ko bs x:=by
 obtain⟨m,hm⟩:∃ m,Vz t true=m:=⟨_,rfl⟩
 have hmb:=Qd t true
 have hop:=Yz l.length m
 have hg:=Jl (ovN l.length m)
 have hN:Qk t l.length=(Gp (ovN l.length m)).sum:=by unfold Qk Hg;rw[hm]
 rw[hm] at hmb
 rw[hN] at hq
 unfold Yq
 rw[hm]
 obtain⟨a1,a2,a3⟩:=Vx (t:=t) (leaf:=true) (m:=m) (v:=Ue t true) (l:=l) (q:=q) (bs:=bs) E h1 h2 hm rfl (fun h=>by cases h) (ovN l.length m) (Nat.le_refl _) (by omega)
 obtain⟨b1,b2⟩:=Me (t:=t) h1 h2 (ovN l.length m) (upE l m q (ovN l.length m)) (q+ovN l.length m) (Pn t true m (Ue t true) l q bs (ovN l.length m)) (Ya _ _ _ _) hop (Dp E hmb.1) (by rw[a1];omega)
 exact⟨by rw[b1,a1],fun x hx=>by rw[b2 x (by omega),a3 x hx]⟩
theorem Zb8{t s:Int}{leaf:Bool}{m v:Nat}{l e:List Ent}{q p:Nat}{bs:List UInt8}(E:EntsOk v l)(h1:1≤t)(h2:t≤5)(hm:Vz t leaf=m)(hv:Ue t leaf=v)(hl:leaf=false→1≤l.length)(s1:1≤s)(s2:s≤5)(Es:EntsOk (Ue s true) e)(hp:(p+Qk s e.length)*256≤bs.length)(j:Nat) :
 j≤ovN l.length m→(q+j)*256≤bs.length→p+Qk s e.length≤q→Yq s e p (Pn t leaf m v l q bs j)=((Yq s e p bs).1,Pn t leaf m v l q (Yq s e p bs).2 j):=by
 induction j with
 | zero=>exact fun _ _ _=>by simp only[Pn]
 | succ j ih =>
  intro hj hq hd
  have ih:=ih (by omega) (by omega) hd
  have a1:=(Vx (t:=t) (leaf:=leaf) (m:=m) (v:=v) (l:=l) (q:=q) (bs:=bs) E h1 h2 hm hv hl j (by omega) (by omega)).1
  have hlen:=Eg (Pm E h1 h2 hm hv hl (show j<ovN l.length m by omega))
  have hsl:(Yl 2 ((q+j:Nat):Int) (nodB t leaf m v (Xe l m j))).length=256:=Kt (by rw[hlen];decide)
  rw[Wu,Wu,treeB_put s1 s2 Es hsl (by rw[a1];exact hp) (by rw[a1];omega) (by omega),ih]
theorem Zed{t s:Int}{e:List Ent}{p:Nat}(h1:1≤t)(h2:t≤5)(s1:1≤s)(s2:s≤5)(Es:EntsOk (Ue s true) e)(n:Nat):∀ (u:List Ent) (q:Nat) (bs:List UInt8),u.length=n→1≤n→EntsOk 4 u→(q+((Gp n).sum-n))*256≤bs.length→(p+Qk s e.length)*256≤bs.length→p+Qk s e.length≤q →
 Yq s e p (Vh t u q bs).2=((Yq s e p bs).1,(Vh t u q (Yq s e p bs).2).2):=by
 induction n using Nat.strongRecOn with
 | _ n ih =>
  intro u q bs hn h1n E hq hp hd
  subst hn
  by_cases h:u.length≤1
  ·rw[Ji h,Ji h]
  ·have h18:=ov18 (x:=u.length) (by omega)
   have hpo:=Yz u.length 18
   have hlm:(Gp u.length).sum=u.length+(Gp (ovN u.length 18)).sum:=by rw[Kf h];rfl
   have hg:=Jl (ovN u.length 18)
   obtain⟨a1,a2,a3⟩:=Vx (t:=t) (leaf:=false) (m:=18) (v:=4) (l:=u) (q:=q) (bs:=bs) E h1 h2 rfl rfl (fun _=>by omega) (ovN u.length 18) (Nat.le_refl _) (by omega)
   have hl:=Zb8 (leaf:=false) (m:=18) (v:=4) (p:=p) E h1 h2 rfl rfl (fun _=>by omega) s1 s2 Es hp (ovN u.length 18) (Nat.le_refl _) (by omega) hd
   rw[Vl h,Vl h,ih (ovN u.length 18) (by omega) (upE u 18 q (ovN u.length 18)) (q+ovN u.length 18) _ (Ya _ _ _ _) hpo (Dp E (by decide)) (by rw[a1];omega) (by rw[a1];exact hp) (by omega),hl]
theorem treeB_tree{t s:Int}{l e:List Ent}{q p:Nat}{bs:List UInt8}(h1:1≤t)(h2:t≤5)(E:EntsOk (Ue t true) l)(s1:1≤s)(s2:s≤5)(Es:EntsOk (Ue s true) e)(hq:(q+Qk t l.length)*256≤bs.length)(hd:p+Qk s e.length≤q) :
 Yq s e p (Yq t l q bs).2=((Yq s e p bs).1,(Yq t l q (Yq s e p bs).2).2):=by
 obtain⟨m,hm⟩:∃ m,Vz t true=m:=⟨_,rfl⟩
 have hmb:=Qd t true
 have hop:=Yz l.length m
 have hg:=Jl (ovN l.length m)
 have hN:Qk t l.length=(Gp (ovN l.length m)).sum:=by unfold Qk Hg;rw[hm]
 rw[hm] at hmb
 rw[hN] at hq
 have hpb:(p+Qk s e.length)*256≤bs.length:=by omega
 obtain⟨a1,a2,a3⟩:=Vx (t:=t) (leaf:=true) (m:=m) (v:=Ue t true) (l:=l) (q:=q) (bs:=bs) E h1 h2 hm rfl (fun h=>by cases h) (ovN l.length m) (Nat.le_refl _) (by omega)
 have hl:=Zb8 (p:=p) E h1 h2 hm rfl (fun h=>by cases h) s1 s2 Es hpb (ovN l.length m) (Nat.le_refl _) (by omega) hd
 have hu:=Zed (p:=p) h1 h2 s1 s2 Es (ovN l.length m) (upE l m q (ovN l.length m)) (q+ovN l.length m) (Pn t true m (Ue t true) l q bs (ovN l.length m)) (Ya _ _ _ _) hop (Dp E hmb.1) (by rw[a1];omega) (by rw[a1];exact hpb) (by omega)
 rw[show(Yq t l q bs)=Vh t (upE l m q (ovN l.length m)) (q+ovN l.length m) (Pn t true m (Ue t true) l q bs (ovN l.length m)) from by unfold Yq;rw[hm],hu,hl]
 rw[show(Yq t l q (Yq s e p bs).2)=Vh t (upE l m q (ovN l.length m)) (q+ovN l.length m) (Pn t true m (Ue t true) l q (Yq s e p bs).2 (ovN l.length m)) from by unfold Yq;rw[hm]]
theorem Zbw{l:List Int}{k:Nat}{x:Ent}:x∈Xo l k↔∃ j:Nat,j<k∧3≤l.getD j 0∧x=((j:Int),leB (l.getD j 0) 4,0):=by
 unfold Xo
 simp only[List.mem_flatMap,List.mem_range]
 constructor
 ·rintro⟨j,hj,hx⟩
  unfold ovX at hx
  split at hx
  ·rename_i h3
   exact⟨j,hj,h3,List.mem_singleton.1 hx⟩
  ·cases hx
 ·rintro⟨j,hj,h3,rfl⟩
  exact⟨j,hj,by unfold ovX;rw[if_pos h3];exact List.mem_singleton.2 rfl⟩
theorem cnt_val{n:Int}(h0:3≤n)(h:n≤2147483647):Xz Gw (leB n 4)=0∧Xr Gw (leB n 4)=[n.toNat]:=by
 obtain⟨m,rfl⟩:∃ m:Nat,n=(m:Int):=⟨n.toNat,by omega⟩
 have e:Zi (leB (m:Int) 4) 0 4=m:=by
  have h:=Mv (a:=[]) (b:=[]) (m:=m) (w:=4) (by omega)
  simpa using h
 have hr:Li Gw (leB (m:Int) 4)=[m]:=by
  show Hf (leB (m:Int) 4) 0 [4]=_
  simp only[Hf]
  rw[e]
 have h1:Xz Gw (leB (m:Int) 4)=0:=by
  have hk:Hk Gw (leB (m:Int) 4)=true:=by
   unfold Hk
   rw[hr,show Gw.length=1 from rfl]
   unfold Nc
   rw[show List.range 1=[0] from rfl]
   simp[inP,Gw]
   omega
  unfold Xz
  rw[if_pos (by rw[Zo];rfl),if_pos hk]
 exact⟨h1,by unfold Xr;rw[if_pos h1,hr];simp⟩
theorem mn3_ge{n:Int}:mn3 n=3↔3≤n:=by unfold mn3;split<;>omega
theorem mn3_lt{n:Int}(h:n<3):mn3 n=n:=if_pos h
theorem Pw(l:List Int)(k:Nat):(Zv l).getD k 0=mn3 (l.getD k 0):=by
 by_cases h:k<l.length
 ·simp[Zv,List.getD,h]
 ·simp[Zv,List.getD,Nat.le_of_not_lt h,mn3]
theorem kv_get{E O:List Ent}(hE:E.map kvE=O.map kvE):E.length=O.length∧∀ i,i<O.length→(E.getD i Xg).1=(O.getD i Xg).1∧(E.getD i Xg).2.1=(O.getD i Xg).2.1:=by
 have hl:E.length=O.length:=by simpa using congrArg List.length hE
 refine⟨hl,fun i hi=>?_⟩
 have h:=congrArg (fun x=>x[i]?) hE
 simp only[List.getElem?_map,List.getElem?_eq_getElem hi,List.getElem?_eq_getElem (show i<E.length by omega),Option.map_some,Option.some.injEq] at h
 rw[Kx hi,Kx (by omega)]
 have h2:(E[i].1,E[i].2.1)=(O[i].1,O[i].2.1):=h
 exact⟨(Prod.mk.inj h2).1,(Prod.mk.inj h2).2⟩
theorem join_back{l:List Int}{E:List Ent}(hc:∀ k,k<l.length→Nu (l.getD k 0))(hE:E.map kvE=(Xo l l.length).map kvE):Vu (Zv l) E=(0,l):=by
 obtain⟨hl,hg⟩:=kv_get hE
 have hO:=Zex l l.length
 have hm:∀ i,i<E.length→∃ k:Nat,k<l.length∧3≤l.getD k 0∧Qb E i=(k:Int)∧(E.getD i Xg).2.1=leB (l.getD k 0) 4:=fun i hi=>by
  rw[hl] at hi
  obtain⟨k,hk,h3,e⟩:=Zbw.1 (List.getElem_mem hi)
  have:=hg i hi
  rw[Kx (l:=Xo l l.length) hi,e] at this
  exact⟨k,hk,h3,this.1,this.2⟩
 have hv:∀ i,i<E.length→∀ k:Nat,Qb E i=(k:Int)→jVal E i=l.getD k 0∧3≤l.getD k 0∧Xz Gw (E.getD i Xg).2.1=0:=fun i hi k hk=>by
  obtain⟨k2,h1,h2,h3,h4⟩:=hm i hi
  obtain rfl:k=k2:=by omega
  have hb:=hc k h1
  unfold Nu at hb
  have hv:=cnt_val h2 hb.2
  unfold jVal
  rw[h4,hv.2]
  refine⟨?_,h2,hv.1⟩
  show(((l.getD k 0).toNat:Nat):Int)=_
  omega
 have hok:jOk (Zv l) E E.length:=fun i hi=>by
  obtain⟨k,h1,h2,h3,h4⟩:=hm i hi
  have hlast:Kl E i<Qb E i:=by
   unfold Kl
   split
   ·omega
   ·rename_i h0
    have hp:=List.pairwise_iff_getElem.1 hO.1 (i-1) i (by omega) (by omega) (by omega)
    have a:=(hg i (by omega)).1
    have b:=(hg (i-1) (by omega)).1
    rw[Kx (l:=Xo l l.length) (by omega)] at a b
    unfold Qb
    rw[a,b];exact hp
  unfold Zcr
  rw[if_neg (by omega),if_neg (fun q=>q (by rw[h3,Int.toNat_natCast,Pw];exact mn3_ge.2 h2))]
  exact(hv i hi k h3).2.2
 have hex:∀ k:Nat,k<l.length→(Zv l).getD k 0=3→∃ j,j<E.length∧Qb E j=(k:Int):=fun k hk h3=>by
  rw[Pw] at h3
  obtain⟨j,hj,e⟩:=List.getElem_of_mem (Zbw.2 ⟨k,hk,mn3_ge.1 h3,rfl⟩)
  have a:=(hg j hj).1
  rw[Kx (l:=Xo l l.length) hj,e] at a
  exact⟨j,by omega,a⟩
 rw[Wr hok,if_pos (Zfw fun k hk h3=>hex k (by rwa [Pp] at hk) h3)]
 congr 1
 apply List.ext_getElem (by rw[Yh,Pp])
 intro k h1 h2
 have e:=Dz (E:=E) (i:=E.length) (show k<(Zv l).length by rwa [Yh] at h1)
 rw[show(Lr (Zv l) E E.length).getD k 0=(Lr (Zv l) E E.length)[k] from by simp[List.getD,h1]] at e
 rw[e,show l[k]=l.getD k 0 from by simp[List.getD,h2]]
 by_cases h3:(Zv l).getD k 0=3
 ·obtain⟨j,hj,hjk⟩:=hex k h2 h3
  unfold Zfd
  rw[Bg hj hjk fun m hmj=>by have:=jOk_inj hok m j hmj hj;omega]
  exact(hv j hj k hjk).1
 ·rw[Zf3 hok h3,Pw]
  rw[Pw,mn3_ge] at h3
  exact mn3_lt (by omega)
theorem Co(l:List Int):∀ j,(Xu l j).flatten=l.take (j*960)
 | 0=>by simp[Xu]
 | j+1=>by
  rw[Zat,List.flatten_append,Co l j,Nat.add_mul,Nat.one_mul,List.take_add]
  simp[Vm]
theorem Zcz(l:List Int):(Xu l (bmN l.length)).flatten=l:=by
 rw[Co,List.take_of_length_le (by unfold bmN;omega)]
theorem Am{L:List (List Int)}{q:Nat}{bs:List UInt8}:∀ n,(q+n)*256≤bs.length→(Kz L q bs n).length=bs.length
 | 0,_=>rfl
 | n+1,h=>by
  have ih:=Am (L:=L) (q:=q) (bs:=bs) n (by omega)
  have hx:(Yl 3 ((q+n:Nat):Int) (Kw (L.getD n []))).length=256:=Kt (by unfold Kw;rw[Kc];decide)
  show(Ke (Kz L q bs n) ((q+n)*256) (Yl 3 ((q+n:Nat):Int) (Kw (L.getD n [])))).length=_
  rw[Qc (by rw[hx,ih];omega),ih]
theorem Zgy{l:List Int}{q N:Nat}{bs:List UInt8}{fuel:Int}(hN:bmN l.length=N)(hq:1≤q)(hl:l.length≤30000)(h4:q+Wc l≤14400)(hb:(q+Wc l)*256≤bs.length)(hfu:(Wc l:Int)≤fuel) :
 Zes ((Xy (Xu (Zv l) N) q N).map kvE) (Qk 4 N) (Hg 4 N).length (Zg (Jn l q bs).2.2 (Jn l q bs).1 4 fuel) ∧
 Zes ((Xo l l.length).map kvE) (Qk 5 (Xo l l.length).length) (Hg 5 (Xo l l.length).length).length (Zg (Jn l q bs).2.2 (Jn l q bs).2.1 5 fuel) ∧
 (Jn l q bs).2.2.length=bs.length ∧
 ∀ i,i<N→Ko (Jn l q bs).2.2 (q+i)=Yl 3 ((q+i:Nat):Int) (Kw (Vm (Zv l) i)):=by
 have hNl:N≤40:=by unfold bmN at hN;omega
 have hol:=Pa l l.length
 obtain⟨L,hL⟩:∃ L,Xu (Zv l) N=L:=⟨_,rfl⟩
 obtain⟨O,hO⟩:∃ O,Xo l l.length=O:=⟨_,rfl⟩
 have hpn:Wc l=N+Qk 4 N+Qk 5 O.length:=by unfold Wc;rw[hN,hO]
 have ES:EntsOk (Ue 4 true) (Xy L q N):=Tu _ _ _ (by omega)
 have EO:EntsOk (Ue 5 true) O:=hO▸Za2 _ _ (by omega)
 rw[hO] at hol
 have hcl:=Am (L:=L) (q:=q) (bs:=bs) N (by omega)
 have hP:Jn l q bs=((Yq 4 (Xy L q N) (q+N) (Kz L q bs N)).1,(Yq 5 O (q+N+Qk 4 N) (Yq 4 (Xy L q N) (q+N) (Kz L q bs N)).2).1,(Yq 5 O (q+N+Qk 4 N) (Yq 4 (Xy L q N) (q+N) (Kz L q bs N)).2).2):=by
  unfold Jn;simp only[hN,hL,hO]
 have hT:=treeB_tree (t:=5) (s:=4) (l:=O) (e:=Xy L q N) (q:=q+N+Qk 4 N) (p:=q+N) (bs:=Kz L q bs N) (by decide) (by decide) EO (by decide) (by decide) ES (by rw[hcl];omega) (by rw[Yu];exact Nat.le_refl _)
 have k4:=Bu (t:=4) (l:=Xy L q N) (q:=q+N) (bs:=Kz L q bs N) (by decide) (by decide) ES (by rw[hcl,Yu];omega)
 have k5:=Bu (t:=5) (l:=O) (q:=q+N+Qk 4 N) (bs:=(Yq 4 (Xy L q N) (q+N) (Kz L q bs N)).2) (by decide) (by decide) EO (by rw[k4.1,hcl];omega)
 have k6:=Bu (t:=5) (l:=O) (q:=q+N+Qk 4 N) (bs:=Kz L q bs N) (by decide) (by decide) EO (by rw[hcl];omega)
 have s4:=Sz (t:=4) (fuel:=fuel) (l:=Xy L q N) (q:=q+N) (bs:=(Yq 5 O (q+N+Qk 4 N) (Kz L q bs N)).2) (by decide) (by decide) ES (by rw[Yu];omega) (by omega) (by rw[Yu,k6.1,hcl];omega) (by rw[Yu];omega) (by rw[Yu];omega)
 have s5:=Sz (t:=5) (fuel:=fuel) (l:=O) (q:=q+N+Qk 4 N) (bs:=(Yq 4 (Xy L q N) (q+N) (Kz L q bs N)).2) (by decide) (by decide) EO (by omega) (by omega) (by rw[k4.1,hcl];omega) (by omega) (by omega)
 rw[hT,Yu] at s4
 rw[hP,hL,hO]
 refine⟨s4,s5,by show(Yq 5 O _ _).2.length=_;rw[k5.1,k4.1,hcl],fun i hi=>?_⟩
 show Ko (Yq 5 O _ _).2 _=_
 rw[k5.2 _ (by omega),k4.2 _ (by omega),Zav (m:=bs.length/256) (by rw[hcl]) rfl (by omega) hi,←hL,Wi hi]
theorem Rd{l:List Int}(hc:∀ k,k<l.length→Nu (l.getD k 0))(i:Nat):Hh (Vm (Zv l) i)∧(Vm (Zv l) i).length≤960:=⟨Fd (Zf0 hc) i,by rw[Po];exact Nat.min_le_left _ _⟩
theorem bitsB_I{l:List Int}(h:Hh l)(hl:l.length≤960):Pt (Kw l) l.length=l:=by
 apply List.ext_getElem (by rw[Ds])
 intro i h1 h2
 have e:=Zfh h (i:=i) (by omega)
 rw[show l.getD i 0=l[i] from by simp[List.getD,h2]] at e
 simp[Pt,Dn,e]
theorem data_bits{F:List UInt8}{k:Nat}{c:List Int}(hk:k<F.length/256)(h4:k<14400)(hb:Ko F k=Yl 3 (k:Int) (Kw c))(hs:Hh c)(hl:c.length≤960):Xh F (k:Int)=0∧Qz F (k:Int)=c:=by
 have h:=seal_in (kind:=3) (by decide) (by decide) hk h4 (by unfold Kw;rw[Kc]) hb
 have he:Xh F (k:Int)=0:=by unfold Xh;rw[if_pos h.1,h.2,if_pos (bitsB_ok hs hl)]
 refine⟨he,?_⟩
 unfold Qz
 rw[if_pos he,h.2,Fc hl,bitsB_I hs hl]
theorem slotX_plc{L:List (List Int)}{q i:Nat}{e:Ent}(h0:1≤q)(h1:q+i≤14399)(hL:(L.getD i []).length≤960)(he:e.2.1=(Zbr L q i).2.1):Kg e=((q+i,Yk (L.getD i []),Xn (L.getD i [])),e.2.2,0):=by
 have h2:Yk (L.getD i [])≤960:=Nat.le_trans (Eh _ _) hL
 have h3:Xn (L.getD i [])≤960:=Nat.le_trans (Zaw _) hL
 have e2:(Zbr L q i).2.1=slB (q+i,Yk (L.getD i []),Xn (L.getD i [])):=rfl
 unfold Kg slotT
 rw[he,e2,slB_ok (x:=(q+i,Yk (L.getD i []),Xn (L.getD i []))) (by simp only;omega) h1 h2 h3,slB_val (x:=(q+i,Yk (L.getD i []),Xn (L.getD i []))) (by simp only;omega) h1 h2 h3]
 rfl
theorem allO_ne{l:List UInt8}{X:List Plc}{over n fuel:Int}{i:Nat}(hi:i<X.length)(h:(Hj l X n i).2.1≠0):(allO l X over n fuel).2.1≠0:=by
 unfold allO
 cases hf:(List.range X.length).find? (fun i=>(Hj l X n i).2.1 != 0) with
 | some j=>simpa using List.find?_some hf
 | none =>
  have:=List.find?_eq_none.1 hf i (List.mem_range.2 hi)
  simp at this
  exact absurd this h
theorem data_back{l:List Int}{q:Nat}{bs:List UInt8}{fuel:Int}(hq:1≤q)(hs:Pf l=0)(hl:l.length≤30000)(h4:q+Wc l≤14400)(hb:(q+Wc l)*256≤bs.length)(hfu:(Wc l:Int)≤fuel) :
 Jc (Jn l q bs).2.2 (Jn l q bs).1 (Jn l q bs).2.1 (l.length:Int) fuel=([],0,l)∧(Jc (Jn l q bs).2.2 (Jn l q bs).1 (Jn l q bs).2.1 ((l.length:Int)+1) fuel).2.1≠0:=by
 obtain⟨N,hN⟩:∃ N,bmN l.length=N:=⟨_,rfl⟩
 have hc:=(Fo hs).2
 obtain⟨⟨es,bl,he,-,hw4⟩,⟨es5,bl5,he5,-,hw5⟩,hF,hB⟩:=Zgy hN hq hl h4 hb hfu
 have hpn:Wc l=N+Qk 4 N+Qk 5 (Xo l l.length).length:=by unfold Wc;rw[hN]
 obtain⟨hel,hg⟩:=kv_get he
 rw[Yu] at hel hg
 obtain⟨F,hFe⟩:∃ F,(Jn l q bs).2.2=F:=⟨_,rfl⟩
 rw[hFe] at hw4 hw5 hF hB ⊢
 have hk:Aw es=true:=Zbf fun i hi=>by
  rw[(hg i (by omega)).1,Hs (by omega)];rfl
 have hX:∀ i,i<N→(es.map Kg).getD i Jp=((q+i,Yk (Vm (Zv l) i),Xn (Vm (Zv l) i)),(es.getD i Xg).2.2,0):=fun i hi=>by
  have hcl:=Rd hc i
  have hp:=slotX_plc (L:=Xu (Zv l) N) (q:=q) (i:=i) (e:=es.getD i Xg) hq (by omega) (by rw[Wi hi];exact hcl.2) (by rw[(hg i hi).2,Hs hi])
  rw[Wi hi] at hp
  rw[←hp]
  simp[List.getD,show i<es.length by omega]
 have hR:∀ i,i<N→Xh F ((q+i:Nat):Int)=0∧Qz F ((q+i:Nat):Int)=Vm (Zv l) i:=fun i hi=>by
  have hcl:=Rd hc i
  exact data_bits (by rw[hF];omega) (by omega) (hB i hi) hcl.1 hcl.2
 have h1:∀ (n:Int) (i:Nat),i<N→Hj F (es.map Kg) n i=if((Vm (Zv l) i).length:Int)≠Vg n i then([(es.getD i Xg).2.2],7,[]) else([],0,Vm (Zv l) i):=fun n i hi=>by
  unfold Hj Ti
  rw[hX i hi]
  simp only
  rw[(hR i hi).1,(hR i hi).2]
  simp
 have hch:∀ i,(Vm (Zv l) i).length=min 960 (l.length-i*960):=fun i=>by rw[Po,Pp]
 have hes:(Zg F (Jn l q bs).1 4 fuel).es=es∧(Zg F (Jn l q bs).1 4 fuel).fs=[]:=by rw[hw4];exact⟨rfl,rfl⟩
 have hes5:(Zg F (Jn l q bs).2.1 5 fuel).es=es5∧(Zg F (Jn l q bs).2.1 5 fuel).fs=[]:=by rw[hw5];exact⟨rfl,rfl⟩
 have hml:(es.map Kg).length=N:=by rw[List.length_map,hel]
 have hNb:N*960<l.length+960∧l.length≤N*960:=by unfold bmN at hN;omega
 constructor
 ·unfold Jc
  rw[if_neg (fun q=>q hes.2),hes.1,if_neg (fun q=>q (by rw[hel];unfold bmI;rw[Int.toNat_natCast,hN])),if_neg (by rw[hk];decide)]
  rw[Bp fun i hi=>by
   rw[hml] at hi
   rw[h1 _ i hi,if_neg (fun q=>q (by rw[hch];unfold Vg;split<;>omega))]]
  have ha:Gl F (es.map Kg) (l.length:Int) (es.map Kg).length=Xu (Zv l) N:=by
   rw[hml]
   unfold Gl Xu
   apply List.map_congr_left
   intro i hi
   have hi:=List.mem_range.1 hi
   rw[hX i hi]
   exact(hR i hi).2
  have hfl:(Xu (Zv l) N).flatten=Zv l:=by
   have:=Zcz (Zv l)
   rwa [Pp,hN] at this
  have hj:=join_back hc he5
  rw[ha,Ot hes5.2 (by rw[hfl,hes5.1,hj]),hfl,hes5.1,hj]
 ·unfold Jc
  rw[if_neg (fun q=>q hes.2),hes.1]
  by_cases hb2:es.length=bmI ((l.length:Int)+1)
  ·rw[if_neg (fun q=>q hb2),if_neg (by rw[hk];decide)]
   have hb3:N=bmN (l.length+1):=by rw[←hel,hb2];unfold bmI;congr 1
   unfold bmN at hb3
   refine allO_ne (i:=N-1) (by rw[hml];omega) ?_
   rw[h1 _ _ (by omega),if_pos]
   ·show(7:Int)≠0;decide
   ·rw[hch];unfold Vg;split<;>omega
  ·rw[if_pos hb2];simp
theorem law23_made(N f:Nat)(w:World)(hN:N≤14400)(h1:1≤f)(h2:f≤N) :
 Calls Tryz.prog 26 #[.int .i64 (↑N:Int),.int .i64 (↑f:Int)] w (Ve (fun w' r=>∃ ba b g c pa ca,r=.pointer (some ⟨ba,0,none⟩)∧AlC w.heap.size ba (256*N) c ca f (N-f)∧Al w.heap.size ba b g (256*N) c pa ca f (N-f) 0 (List.replicate (256*N) (0:UInt8)) w') w):=by
 refine zin 17 Tryz.func26 ?_
 refine xwm 8 (256*(↑N:Int)) (↑(256*N):Int) ?_
 refine xmk 0 fun _ _ _ _ zJ zQ zo zx zy zK=>Ga (256*N) (.int .u8 0) 1 1 ((List.replicate (256*N) (0:UInt8)).map bv) zo zx zy Tryz.underlying22 (by kernel_rfl) rfl (by omega) (by omega) (Zfx (256*N)) fun b1 W1 n1=>?_
 refine zK _ _ ?_
 have o1:=Zw (size:=1) (n:=(256*N)) n1.blk (n1.ge (Below.refl w.heap.size _)) (by rw[List.length_map,List.length_replicate,Nat.mul_one]) (by unfold maxLen;omega)
 refine xc 0 (args:=#[.slice (some ⟨b1,0,none⟩) (256*N) (256*N)]) (image_OfN (some ⟨b1,0,none⟩) (256*N) (256*N) (256*N) (List.replicate (256*N) (0:UInt8)) _ List.length_replicate (by omega) (Qy (Zf o1) List.length_replicate) (by omega) (Nat.le_refl _)) ?_
 rintro _ W2 ⟨_,rfl,hb2,bi,pi,ci,rfl,gi,ki,hd⟩
 have hd'1:=Zd hd n1.below.size
 rw[List.take_of_length_le (by rw[List.length_replicate];omega)] at hd'1
 obtain⟨g,rfl,hci⟩:=Jz hd'1 (by omega)
 have hB:=bln n1.below hb2
 have hs9:=hB.size
 refine xc 1 (args:=#[.pointer (some ⟨bi,0,none⟩),.int .i64 (↑f:Int)]) (Zgv bi (some ⟨g,0,none⟩) (256*N) ci f (N-f) (f:Int) rfl (by omega) _ ki (by omega) h1 (by omega)) ?_
 rintro _ W3 ⟨_,rfl,hb3,ba,pa,ca,rfl,ga,ka,ho⟩
 replace ga:=Nat.le_trans hs9 ga
 have ki'1:=ki.below hb3
 have hd'2:=Zb hd'1 hb3
 have ho'1:=Zd ho hB.size
 have hA:Al w.heap.size ba bi g (256*N) ci pa ca f (N-f) 0 (List.replicate (256*N) (0:UInt8)) _:=⟨ka,ki'1,hd'2,ho'1⟩
 have hca:N-f≤ca:=by
  rcases Nat.eq_zero_or_pos (N-f) with q|q
  ·omega
  ·exact own_cap ho'1 q
 have hC:AlC w.heap.size ba (256*N) ci ca f (N-f):=⟨by omega,hci,hca,by omega,ga⟩
 have hB'1:=bln hB hb3
 exact xe 14 (.pointer (some ⟨ba,0,none⟩)) ⟨_,rfl,hB'1,_,_,_,_,_,_,rfl,hC,hA⟩
theorem madeN23(N f:Nat)(Ni fi:Int)(hNi:Ni=(N:Int))(hfi:fi=(f:Int))(w:World)(hN:N≤14400)(h1:1≤f)(h2:f≤N) :
 Calls Tryz.prog 26 #[.int .i64 Ni,.int .i64 fi] w (Ve (fun w' r=>∃ ba b g c pa ca,r=.pointer (some ⟨ba,0,none⟩)∧AlC w.heap.size ba (256*N) c ca f (N-f)∧Al w.heap.size ba b g (256*N) c pa ca f (N-f) 0 (List.replicate (256*N) (0:UInt8)) w') w):=by
 subst hNi hfi;exact law23_made N f w hN h1 h2
theorem Zd3(Bi b:Nat)(pi:Option Addr)(ni ci:Nat)(l:List UInt8)(index over n fuel:Int)(m:Nat)(L:List Int)(w:World)(hI:ImgR Bi b pi ni ci l w)(hn:n≤1099511627776)(hfu:fuel≤1000)(hO:Jc l index over n fuel=([],0,L))(hm:L.length=m) :
 Calls Tryz.prog 16 #[.pointer (some ⟨b,0,none⟩),.int .i64 index,.int .i64 over,.int .i64 n,.int .i64 fuel] w (Ve (fun w' r=>∃ p c,r=.tuple #[.slice p m c,.nilIface]∧w'.ownsRow w.heap.size 3 1 (.slice p m c) m (L.map (Value.int .i64))) w):=by
 subst hm
 refine(Aj Bi b pi ni ci l index over n fuel w hI hn hfu).mono ?_
 rintro e W q
 rw[hO] at q
 rcases q with ⟨h,_⟩|⟨h,p,c,rfl,hb,ho⟩
 ·exact absurd rfl h
 ·exact⟨_,rfl,hb,p,c,rfl,ho⟩
theorem Ma(a b:Option Addr)(n ca cb:Nat)(l:List Int)(w:World)(hn:l.length=n)(ha:Sl w (.slice a n ca) n (l.map (Value.int .i64)))(hb:Sl w (.slice b n cb) n (l.map (Value.int .i64))):Calls Tryz.prog 13 #[.slice a n ca,.slice b n cb] w (Ret (.bool true) w):=by
 subst hn;exact Zg5 a b ca cb l w ha hb
def Zcs:List Int:=[0,5,2]
theorem Ab:Pf Zcs=0:=Ey (by decide) fun k hk=>by
 have hk':k<3:=hk
 obtain rfl|rfl|rfl:k=0∨k=1∨k=2:=by omega
 all_goals decide
theorem nodN4_1{n:Nat}(h:n≤9):Qk 4 n=1:=by
 unfold Qk Hg
 have hp:=Yz n 9
 rw[show Vz 4 true=9 from rfl,show ovN n 9=1 from by unfold ovN at hp ⊢;omega,Jq (by decide)];rfl
theorem Zeq:Wc Zcs≤8:=by
 have h5:Qk 5 (Xo Zcs Zcs.length).length=1:=by
  unfold Qk Hg
  rw[show Vz 5 true=18 from rfl,show(Xo Zcs Zcs.length).length=1 from by decide,Jq (by decide)];rfl
 have hb:bmN Zcs.length=1:=by decide
 unfold Wc
 rw[hb,nodN4_1 (by decide),h5];decide
theorem Og(w:World) :
 Calls Tryz.prog 15 #[] w (Ret (.bool true) w):=by
 refine zin 36 Tryz.func15 ?_
 have hs1:w.heap.size≤(w).heap.size:=(Below.refl w.heap.size _).size
 refine xc 7 (args:=#[.int .i64 9,.int .i64 1]) (madeN23 9 1 (9) (1) (by simp) rfl _ (by decide) (by decide) (by decide)) ?_
 rintro _ W1 ⟨_,rfl,hb1,ba,b,g,c,pa,ca,rfl,hC,hA⟩
 have hs1:=Nat.le_refl w.heap.size
 replace hC:=hC.mono hs1
 replace hA:=hA.mono hs1
 refine xbs 16 3 [.int .i64 0,.int .i64 5,.int .i64 2] 3 fun b2 W2 n2=>?_
 have hA'1:=hA.below n2.below
 have hB:=bln hb1 n2.below
 refine xc 0 (args:=#[.pointer (some ⟨ba,0,none⟩),.slice (some ⟨b2,0,none⟩) 3 3]) (plot_Data w.heap.size ba b g _ c pa ca 1 _ 0 (List.replicate (256*9) (0:UInt8)) (some ⟨b2,0,none⟩) 3 Zcs _ hC hA'1 (Zf (Zw (size:=1) (n:=3) n2.blk (n2.ge hb1) rfl (by decide))) (by decide) Ab (by decide) (Nat.zero_le _) (by have:=Zeq;omega) hB.size) ?_
 rintro _ W3 ⟨rfl,hb3,hO3,hX3,hA⟩
 refine xr 12 (args:=#[.pointer (some ⟨ba,0,none⟩)]) (Np ba b _ _ _ hA.blkA) fun W4 hb4=>?_
 have hbk:=(data_back (l:=Zcs) (q:=1+0) (bs:=(List.replicate (256*9) (0:UInt8))) (fuel:=9) (by decide) Ab (by decide) (by have:=Zeq;omega) (by have:=Zeq;rw[List.length_replicate];omega) (by have:=Zeq;omega)).1
 have hA'2:=hA.below hb4
 refine xc 2 (args:=#[.pointer (some ⟨b,0,none⟩),.int .i64 ((Jn Zcs (1+0) (List.replicate (256*9) (0:UInt8))).1),.int .i64 ((Jn Zcs (1+0) (List.replicate (256*9) (0:UInt8))).2.1),.int .i64 3,.int .i64 9]) (Zd3 w.heap.size b (some ⟨g,0,none⟩) (256*9) c (Jn Zcs (1+0) (List.replicate (256*9) (0:UInt8))).2.2 (Jn Zcs (1+0) (List.replicate (256*9) (0:UInt8))).1 (Jn Zcs (1+0) (List.replicate (256*9) (0:UInt8))).2.1 3 9 3 Zcs _ ⟨hA'2.blkI,hA'2.data,by omega⟩ (by omega) (by decide) hbk rfl) ?_
 rintro _ W5 ⟨_,rfl,hb5,p9,c9,rfl,ho9⟩
 have hs5:=(bln (hB.trans hb3) hb4).size
 refine xbs 17 3 [.int .i64 0,.int .i64 5,.int .i64 2] 3 fun b6 W6 n6=>?_
 have k2'1:=((n2.blk.only hO3 (by decide)).below hb4).below hb5
 have d6_b2:=n6.ne k2'1
 have hB'1:=bln (bln (hB.trans hb3) hb4) hb5
 have g6:=n6.ge hB'1
 have ho9'1:=Zd ho9 hs5
 have r6_ho9:=Zu ho9'1 n6
 have ho9'2:=Zb ho9'1 n6.below
 refine xr 0 (args:=#[.slice p9 3 c9,.slice (some ⟨b6,0,none⟩) 3 3]) (Ma p9 (some ⟨b6,0,none⟩) 3 c9 3 Zcs _ rfl (Zf ho9'2) (Zf (Zw (size:=1) (n:=3) n6.blk g6 rfl (by decide)))) fun W7 hb7=>?_
 have hB'2:=bln (bln hB'1 n6.below) hb7
 exact xe 5 (.bool true) ⟨rfl,hB'2⟩
def jN (E:List Ent)(i:Nat):Nat:=(Qb E i).toNat
theorem Zdb{w:World}{a:Option Addr}{c k:Nat}{E:List Ent}(h:Sts Vd w (.slice a E.length c) E)(hk:k<E.length)(h0:∀ i,i<E.length→0≤Qb E i):w.cell? ((Xi a (k*3)).add 0)=some (.int .i64 (jN E k:Int)):=by
 have:=(Sts.cell h Xq Xg (k:=k) (i:=0) hk rfl).2
 rw[show((jN E k:Nat):Int)=(E.getD k Xg).1 from by have:=h0 k hk;unfold jN Qb at *;omega]
 exact this
theorem Hi(E:List Ent)(i:Nat)(w:World)(hs:(E.getD i Xg).2.1.length≤1000):Calls Tryz.prog 106 #[.string ⟨(E.getD i Xg).2.1.toArray⟩] w (Ret (.tuple #[.int .i64 (jVal E i),.int .i64 (Xz Gw (E.getD i Xg).2.1)]) w):=Fi _ w hs
theorem jLast_or(E:List Ent)(i:Nat):(i=0∧Kl E i = -1)∨(0<i∧Kl E i=Qb E (i-1)):=by
 unfold Kl
 by_cases h:i=0
 ·rw[if_pos h];exact .inl ⟨h,rfl⟩
 ·rw[if_neg h];exact .inr ⟨by omega,rfl⟩
theorem jN_key{E:List Ent}{i:Nat}(h0:∀ i,i<E.length→0≤Qb E i)(hi:i<E.length):(jN E i:Int)=Qb E i:=by have:=h0 i hi;unfold jN;omega
def FindP(E:List Ent)(k:Nat)(w:World)(e:Ending)(w':World):Prop :=
 (∃ j,(j<E.length∧Qb E j=(k:Int)∧∀ m,m<j→Qb E m≠(k:Int))∧e=.returned (.int .i64 (j:Int))∧Below w.heap.size w w')∨((∀ j,j<E.length→Qb E j≠(k:Int))∧e=.returned (.int .i64 (-1))∧Below w.heap.size w w')
theorem ref21_form(B2:Nat)(pl:Option Addr)(cl:Nat)(gs:List (Nat×Nat))(L:List (List Int))(w:World)(hL:Lists w B2 (.slice pl L.length cl) gs L)(hF:FormOk L)(hl:L.length≤1200000000) :
 Calls Tryz.prog 105 #[.slice pl L.length cl] w (Ret (.bool true) w):=by
 refine zin 57 Tryz.func105 ?_
 have hB:=Below.refl w.heap.size w
 refine zl 12 57 (fun zm zkv V=>∃ (i:Nat),zkv=[(0,.slice pl L.length cl),(3,.int .i64 (↑i:Int))]∧zm=L.length-((↑i:Int)).toNat∧Below w.heap.size w V∧i≤L.length) ⟨0,rfl,rfl,hB,Nat.zero_le _⟩ ?_
 rintro _ _ W1 ⟨i,rfl,rfl,hB_1,hi⟩ J1 hJ1 r1
 have hfo:=fun(q:i<L.length)=>hF.len i q
 refine xid 9 ((↑i:Int)<(↑L.length:Int)) (fun hc2=>?_) (fun hc2=>?_)
 ·refine xx 8 _ L.length i 1 (Lists.elem hL rfl (k:=i) (by omega)).1 ?_
  refine xl 0 ((Lists.elem (hL.below hB_1) rfl (k:=i) (by omega)).2) ?_
  refine xgk 10 [18,19] (show(((↑((L.getD i []).length):Int)==(0:Int)):Bool)=false from beq_false_of_ne (by have:=(hfo (by omega)).1;omega)) ?_
  refine xgk 4 [21,22,23] (show(decide ((↑((L.getD i []).length):Int)>(960:Int)):Bool)=false from decide_eq_false (by have:=(hfo (by omega)).2.1;omega)) ?_
  refine xwm 1 ((↑i:Int)+1) (↑(i+1):Int) ?_
  refine xg 4 [28,29] (decide ((↑(i+1):Int)<(↑L.length:Int))) (fun hc5=>?_) (fun hc5=>?_)
  ·have hc5:=of_decide_eq_true hc5
   refine xk 6 (show(decide ((↑((L.getD i []).length):Int)<(960:Int)):Bool)=false from decide_eq_false (by have:=(hfo (by omega)).2.2 (by omega);omega)) ?_
   refine zl 8 57 (fun zm zkv V=>∃ (k:Nat),zkv=[(0,.slice pl L.length cl),(3,.int .i64 (↑i:Int)),(4,.int .i64 (↑((L.getD i []).length):Int)),(5,.int .i64 (↑k:Int))]∧zm=(L.getD i []).length-((↑k:Int)).toNat∧Below w.heap.size w V∧k≤(L.getD i []).length) ⟨0,rfl,rfl,hB_1,Nat.zero_le _⟩ ?_
   rintro _ _ W6 ⟨k,rfl,rfl,hB_6,hk⟩ J6 hJ6 r6
   have hsm:=fun(q:k<(L.getD i []).length)=>Vk (hF.small i (by omega)) k
   have hf2:=(hF.len i (by omega)).2.1
   refine xid 8 ((↑k:Int)<(↑((L.getD i []).length):Int)) (fun hc7=>?_) (fun hc7=>?_)
   ·refine xx 8 _ L.length i 1 (Lists.elem hL rfl (k:=i) (by omega)).1 ?_
    refine xl 0 ((Lists.elem (hL.below hB_6) rfl (k:=i) (by omega)).2) ?_
    refine xxb 1 (gs.getD i (0,0)).1 0 ((L.getD i []).length) k 1 ?_
    refine xl 0 (Pr (IntsN.elem (Zf (Lists.each (hL.below hB_6) i (by omega))) rfl (k:=k) (by omega)).2) ?_
    refine xgk 2 [46,47] (show(decide (((L.getD i []).getD k 0)<(0:Int)):Bool)=false from decide_eq_false (by have:=(hsm (by omega)).1;omega)) ?_
    refine xx 2 _ L.length i 1 (Lists.elem hL rfl (k:=i) (by omega)).1 ?_
    refine xl 0 ((Lists.elem (hL.below hB_6) rfl (k:=i) (by omega)).2) ?_
    refine xxb 1 (gs.getD i (0,0)).1 0 ((L.getD i []).length) k 1 ?_
    refine xl 0 (Pr (IntsN.elem (Zf (Lists.each (hL.below hB_6) i (by omega))) rfl (k:=k) (by omega)).2) ?_
    refine xk 4 (show(decide (((L.getD i []).getD k 0)>(3:Int)):Bool)=false from decide_eq_false (by have:=(hsm (by omega)).2;omega)) ?_
    refine xwm 5 ((↑k:Int)+1) (↑(k+1):Int) ?_
    exact ze 2 (hJ6 _ _ _ ⟨k+1,rfl,rfl,hB_6,by omega⟩ (by omega))
   refine xwm 8 ((↑i:Int)+1) (↑(i+1):Int) ?_
   exact ze 2 (hJ1 _ _ _ ⟨i+1,rfl,rfl,hB_6,by omega⟩ (by omega))
  have hc5:=of_decide_eq_false hc5
  refine zl 15 57 (fun zm zkv V=>∃ (k:Nat),zkv=[(0,.slice pl L.length cl),(3,.int .i64 (↑i:Int)),(4,.int .i64 (↑((L.getD i []).length):Int)),(5,.int .i64 (↑k:Int))]∧zm=(L.getD i []).length-((↑k:Int)).toNat∧Below w.heap.size w V∧k≤(L.getD i []).length) ⟨0,rfl,rfl,hB_1,Nat.zero_le _⟩ ?_
  rintro _ _ W9 ⟨k,rfl,rfl,hB_9,hk⟩ J9 hJ9 r9
  have hsm:=fun(q:k<(L.getD i []).length)=>Vk (hF.small i (by omega)) k
  have hf2:=(hF.len i (by omega)).2.1
  refine xid 8 ((↑k:Int)<(↑((L.getD i []).length):Int)) (fun hc10=>?_) (fun hc10=>?_)
  ·refine xx 8 _ L.length i 1 (Lists.elem hL rfl (k:=i) (by omega)).1 ?_
   refine xl 0 ((Lists.elem (hL.below hB_9) rfl (k:=i) (by omega)).2) ?_
   refine xxb 1 (gs.getD i (0,0)).1 0 ((L.getD i []).length) k 1 ?_
   refine xl 0 (Pr (IntsN.elem (Zf (Lists.each (hL.below hB_9) i (by omega))) rfl (k:=k) (by omega)).2) ?_
   refine xgk 2 [46,47] (show(decide (((L.getD i []).getD k 0)<(0:Int)):Bool)=false from decide_eq_false (by have:=(hsm (by omega)).1;omega)) ?_
   refine xx 2 _ L.length i 1 (Lists.elem hL rfl (k:=i) (by omega)).1 ?_
   refine xl 0 ((Lists.elem (hL.below hB_9) rfl (k:=i) (by omega)).2) ?_
   refine xxb 1 (gs.getD i (0,0)).1 0 ((L.getD i []).length) k 1 ?_
   refine xl 0 (Pr (IntsN.elem (Zf (Lists.each (hL.below hB_9) i (by omega))) rfl (k:=k) (by omega)).2) ?_
   refine xk 4 (show(decide (((L.getD i []).getD k 0)>(3:Int)):Bool)=false from decide_eq_false (by have:=(hsm (by omega)).2;omega)) ?_
   refine xwm 5 ((↑k:Int)+1) (↑(k+1):Int) ?_
   exact ze 2 (hJ9 _ _ _ ⟨k+1,rfl,rfl,hB_9,by omega⟩ (by omega))
  refine xwm 8 ((↑i:Int)+1) (↑(i+1):Int) ?_
  exact ze 2 (hJ1 _ _ _ ⟨i+1,rfl,rfl,hB_9,by omega⟩ (by omega))
 exact xe 11 (.bool true) ⟨rfl,hB_1⟩
theorem Zg8(a:Option Addr)(ce:Nat)(E:List Ent)(key:Nat)(w:World)(hE:Sts Vd w (.slice a E.length ce) E)(h0:∀ i,i<E.length→0≤Qb E i) :
 Calls Tryz.prog 107 #[.slice a E.length ce,.int .i64 (↑key:Int)] w (FindP E key w):=by
 have hEl:=Sl.len hE
 refine zin 20 Tryz.func107 ?_
 have hB:=Below.refl w.heap.size w
 refine zl 12 20 (fun zm zkv V=>∃ (i:Nat),zkv=[(0,.slice a E.length ce),(1,.int .i64 (↑key:Int)),(5,.int .i64 (↑i:Int))]∧zm=E.length-((↑i:Int)).toNat∧Below w.heap.size w V∧i≤E.length∧(∀ j,j<i→Qb E j≠(key:Int))) ⟨0,rfl,rfl,hB,Nat.zero_le _,?_⟩ ?_
 ·exact fun j hj=>absurd hj (by omega)
 rintro _ _ W1 ⟨i,rfl,rfl,hB_1,hi,hz⟩ J1 hJ1 r1
 have hkn:=fun(q:i<E.length)=>jN_key h0 q
 refine xid 9 ((↑i:Int)<(↑E.length:Int)) (fun hc2=>?_) (fun hc2=>?_)
 ·refine xx 8 _ E.length i 3 (Sts.cell hE Xq Xg (k:=i) (i:=0) (by omega) rfl).1 ?_
  refine xl 1 (Zdb (k:=i) (hE.below hB_1) (by omega) h0) ?_
  refine xie 4 (↑(jN E i):Int) (↑key:Int) (fun hc3=>?_) (fun hc3=>?_)
  ·exact xe 12 (.int .i64 (↑i:Int)) (.inl ⟨i,⟨by omega,by have:=hkn (by omega);omega,hz⟩,rfl,hB_1⟩)
  refine xwm 5 ((↑i:Int)+1) (↑(i+1):Int) ?_
  exact ze 2 (hJ1 _ _ _ ⟨i+1,rfl,rfl,hB_1,by omega,fun j hj=>(Nat.lt_or_ge j i).elim (hz j) (fun q=>by obtain rfl:j=i:=(by omega);have:=hkn (by omega);omega)⟩ (by omega))
 exact xe 11 (.int .i64 (-1)) (.inr ⟨fun j hj=>hz j (by omega),rfl,hB_1⟩)
theorem docL_cell{w:World}{p:Option Addr}{F:List Int}{E:List Ent}{n c k:Nat}(h:Sl w (.slice p F.length c) F.length ((Zaj F E n k).map (Value.int .i64)))(hk:k<F.length):w.cell? (Xi p (k*1))=some (.int .i64 (F.getD k 0)):=by
 have h1:=(IntsN.elem h (docL_len (by omega)) hk).2
 rwa [docL_at hk] at h1
theorem docL_setJ{F:List Int}{E:List Ent}{n k j:Nat}(h:k<F.length)(hj:j<n)(hk:Qb E j=(k:Int))(hn:∀ m,m<j→Qb E m≠(k:Int)):((Zaj F E n k).map (Value.int .i64)).set k (.int .i64 (jVal E j))=(Zaj F E n (k+1)).map (Value.int .i64):=by
 rw[←docL_set h]
 unfold Zfd
 rw[Bg hj hk hn]
theorem ref21_Join(B2:Nat)(pl:Option Addr)(cl:Nat)(gs:List (Nat×Nat))(L:List (List Int))(a:Option Addr)(ce:Nat)(E:List Ent)(w:World)(hL:Lists w B2 (.slice pl L.length cl) gs L)(hF:FormOk L)(hl:L.length≤1200000000)(hE:Sts Vd w (.slice a E.length ce) E)(hv:∀ i,i<E.length→(E.getD i Xg).2.1.length≤1000)(h0:∀ i,i<E.length→0≤Qb E i) :
 Calls Tryz.prog 68 #[.slice pl L.length cl,.slice a E.length ce] w (JoinP L.flatten E w):=by
 have hEl:=Sl.len hE
 have hFl:=Lc hF L.length (Nat.le_refl _)
 rw[Dw] at hFl
 refine zin 111 Tryz.func68 ?_
 refine xr 10 (args:=#[.slice pl L.length cl]) (ref21_form B2 pl cl gs L _ (hL.below (Below.refl w.heap.size _)) hF hl) fun W1 hb1=>?_
 refine zl 18 111 (fun zm zkv V=>∃ (i m:Nat) (p:Option Addr) (c:Nat),zkv=[(0,.slice pl L.length cl),(1,.slice a E.length ce),(4,.slice none 0 0),(5,.int .i64 0),(6,.slice p m c),(7,.int .i64 (↑i:Int))]∧zm=L.length-((↑i:Int)).toNat∧Below w.heap.size w V∧V.ownsRow w.heap.size 3 1 (.slice p m c) m ((Ks L i).map (Value.int .i64))∧i≤L.length∧m=(Ks L i).length) ⟨0,0,none,0,rfl,rfl,hb1,World.ownsRow_nil _ _ _ _,Nat.zero_le _,rfl⟩ ?_
 rintro _ _ W2 ⟨i,m,p,c,rfl,rfl,hB_2,ho,hi,hm⟩ J2 hJ2 r2
 have hfo:=fun(q:i<L.length)=>hF.len i q
 have hfl:=fun(q:i≤L.length)=>Lc hF i q
 refine xid 9 ((↑i:Int)<(↑L.length:Int)) (fun hc3=>?_) (fun hc3=>?_)
 ·refine xx 8 _ L.length i 1 (Lists.elem hL rfl (k:=i) (by omega)).1 ?_
  refine xl 0 ((Lists.elem (hL.below hB_2) rfl (k:=i) (by omega)).2) ?_
  refine xbi 0 fun _ _ _ _ zJ zQ zo zx zy zK=>Zp (m:=(L.getD i []).length) (news:=((L.getD i []).map (Value.int .i64))) (.int .i64 0) 1 8 (m+(L.getD i []).length) (((Ks L (i+1)).map (Value.int .i64))) zo Tryz.underlying30 (by kernel_rfl) rfl (by decide) zx ho zy (Zf (Lists.each (hL.below hB_2) i (by omega))) (by simp) (Kj _) (by have:=(hfo (by omega)).2.1;have:=hfl (by omega);unfold maxLen;omega) (by have:=(hfo (by omega)).2.1;have:=hfl (by omega);omega) hB_2.size (by omega) (by rw[Pv (by omega),List.map_append]) fun px4 cx4 W4 o4 hg4 hb4=>?_
  refine zK _ _ ?_
  refine xwm 6 ((↑i:Int)+1) (↑(i+1):Int) ?_
  have hB'1:=hB_2.trans hb4
  exact ze 2 (hJ2 _ _ _ ⟨i+1,_,_,_,rfl,rfl,hB'1,o4,by omega,by rw[Pv (by omega),List.length_append];omega⟩ (by omega))
 obtain rfl:i=L.length:=by omega
 rw[Dw] at hm
 have hof:=ho
 rw[Dw] at hof
 subst hm
 refine zl 12 111 (fun zm zkv V=>∃ (i:Nat),zkv=[(1,.slice a E.length ce),(6,.slice p L.flatten.length c),(8,.int .i64 (↑i:Int))]∧zm=E.length-((↑i:Int)).toNat∧Below w.heap.size w V∧V.ownsRow w.heap.size 3 1 (.slice p L.flatten.length c) L.flatten.length (L.flatten.map (Value.int .i64))∧i≤E.length∧jOk L.flatten E i) ⟨0,rfl,rfl,hB_2,hof,Nat.zero_le _,(fun j hj=>absurd hj (by omega))⟩ ?_
 rintro _ _ W5 ⟨i,rfl,rfl,hB_5,ho_5,hi_5,hok⟩ J5 hJ5 r5
 have hjl:=Pi hok
 have hjo:=jLast_or E i
 have hkn:=fun(q:i<E.length)=>jN_key h0 q
 have hkp:=fun(q:i<E.length)=>jN_key (i:=i-1) h0 (by omega)
 refine xid 9 ((↑i:Int)<(↑E.length:Int)) (fun hc6=>?_) (fun hc6=>?_)
 ·refine xx 8 _ E.length i 3 (Sts.cell hE Xq Xg (k:=i) (i:=0) (by omega) rfl).1 ?_
  refine xl 1 (Zdb (k:=i) (hE.below hB_5) (by omega) h0) ?_
  refine xgk 9 [43,44] (show(decide ((↑(jN E i):Int)<(0:Int)):Bool)=false from decide_eq_false (by omega)) ?_
  refine xg 3 [46,47] (decide ((↑i:Int)>(0:Int))) (fun hc8=>?_) (fun hc8=>?_)
  ·have hc8:=of_decide_eq_true hc8
   refine xwm 3 ((↑i:Int)-1) (↑(i-1):Int) ?_
   refine xx 0 _ E.length (i-1) 3 (Sts.cell hE Xq Xg (k:=(i-1)) (i:=0) (by omega) rfl).1 ?_
   refine xl 1 (Zdb (k:=(i-1)) (hE.below hB_5) (by omega) h0) ?_
   refine xid 5 ((↑(jN E i):Int)≤(↑(jN E (i-1)):Int)) (fun hc9=>?_) (fun hc9=>?_)
   ·refine xe 13 (.tuple #[.slice none 0 0,.int .i64 8]) ?_
    have h8:Qb E i≤Kl E i:=by have:=hkn (by omega);have:=hkp (by omega);omega
    exact Qp ((Vv (by omega) hok (by rw[Zep h8];decide)).trans (by rw[Zep h8])) hB_5
   refine xg 10 [61,62] (decide ((↑(jN E i):Int)≥(↑L.flatten.length:Int))) (fun hc10=>?_) (fun hc10=>?_)
   ·have hc10:=of_decide_eq_true hc10
    refine xe 22 (.tuple #[.slice none 0 0,.int .i64 13]) ?_
    have hlt:Kl E i<Qb E i:=by have:=hkn (by omega);have:=hkp (by omega);omega
    have h13:=Fv (F:=L.flatten) hlt (fun q=>by have:=Zae q;unfold jN at *;omega)
    exact Qp ((Vv (by omega) hok (by rw[h13];decide)).trans (by rw[h13])) hB_5
   have hc10:=of_decide_eq_false hc10
   have hkf:jN E i<L.flatten.length:=by omega
   refine xx 2 _ L.flatten.length (jN E i) 1 (Hm ho_5 (by omega)).1 ?_
   refine xl 0 ((IntsN.elem (Zf ho_5) (by rfl) (k:=(jN E i)) (by omega)).2) ?_
   refine xin 4 (L.flatten.getD (jN E i) 0) (3:Int) (fun hc11=>?_) (fun hc11=>?_)
   ·refine xe 13 (.tuple #[.slice none 0 0,.int .i64 13]) ?_
    have hlt:Kl E i<Qb E i:=by have:=hkn (by omega);have:=hkp (by omega);omega
    have h13:=Fv (F:=L.flatten) hlt (fun q=>by unfold jN at *;omega)
    exact Qp ((Vv (by omega) hok (by rw[h13];decide)).trans (by rw[h13])) hB_5
   have hlt:Kl E i<Qb E i:=by have:=hkn (by omega);have:=hkp (by omega);omega
   have h3:L.flatten.getD (Qb E i).toNat 0=3:=by unfold jN at *;omega
   have hjr:=jBad_r (F:=L.flatten) hlt h3
   refine xx 6 _ E.length i 3 (Sts.cell hE Xq Xg (k:=i) (i:=0) (by omega) rfl).1 ?_
   refine xl 1 ((Sts.cell (hE.below hB_5) Xq Xg (k:=i) (i:=1) (by omega) rfl).2) ?_
   refine xr 0 (args:=#[.string ⟨((E.getD i Xg).2.1).toArray⟩]) (Hi E i _ (hv i (by omega))) fun W12 hb12=>?_
   refine xin 13 (Xz Gw (E.getD i Xg).2.1) (0:Int) (fun hc13=>?_) (fun hc13=>?_)
   ·have hB'2:=bln hB_5 hb12
    exact xe 13 (.tuple #[.slice none 0 0,.int .i64 (Xz Gw (E.getD i Xg).2.1)]) (Qp ((Vv (by omega) hok (by rw[hjr];omega)).trans (by rw[hjr])) hB'2)
   have hok2:jOk L.flatten E (i+1):=Io hok (by rw[hjr];omega)
   refine xwm 5 ((↑i:Int)+1) (↑(i+1):Int) ?_
   have hB'3:=bln hB_5 hb12
   have ho'1:=Zb ho_5 hb12
   exact ze 2 (hJ5 _ _ _ ⟨i+1,rfl,rfl,hB'3,ho'1,by omega,hok2⟩ (by omega))
  have hc8:=of_decide_eq_false hc8
  refine xg 23 [61,62] (decide ((↑(jN E i):Int)≥(↑L.flatten.length:Int))) (fun hc14=>?_) (fun hc14=>?_)
  ·have hc14:=of_decide_eq_true hc14
   refine xe 22 (.tuple #[.slice none 0 0,.int .i64 13]) ?_
   have hlt:Kl E i<Qb E i:=by have:=hkn (by omega);have:=hkp (by omega);omega
   have h13:=Fv (F:=L.flatten) hlt (fun q=>by have:=Zae q;unfold jN at *;omega)
   exact Qp ((Vv (by omega) hok (by rw[h13];decide)).trans (by rw[h13])) hB_5
  have hc14:=of_decide_eq_false hc14
  have hkf:jN E i<L.flatten.length:=by omega
  refine xx 2 _ L.flatten.length (jN E i) 1 (Hm ho_5 (by omega)).1 ?_
  refine xl 0 ((IntsN.elem (Zf ho_5) (by rfl) (k:=(jN E i)) (by omega)).2) ?_
  refine xin 4 (L.flatten.getD (jN E i) 0) (3:Int) (fun hc15=>?_) (fun hc15=>?_)
  ·refine xe 13 (.tuple #[.slice none 0 0,.int .i64 13]) ?_
   have hlt:Kl E i<Qb E i:=by have:=hkn (by omega);have:=hkp (by omega);omega
   have h13:=Fv (F:=L.flatten) hlt (fun q=>by unfold jN at *;omega)
   exact Qp ((Vv (by omega) hok (by rw[h13];decide)).trans (by rw[h13])) hB_5
  have hlt:Kl E i<Qb E i:=by have:=hkn (by omega);have:=hkp (by omega);omega
  have h3:L.flatten.getD (Qb E i).toNat 0=3:=by unfold jN at *;omega
  have hjr:=jBad_r (F:=L.flatten) hlt h3
  refine xx 6 _ E.length i 3 (Sts.cell hE Xq Xg (k:=i) (i:=0) (by omega) rfl).1 ?_
  refine xl 1 ((Sts.cell (hE.below hB_5) Xq Xg (k:=i) (i:=1) (by omega) rfl).2) ?_
  refine xr 0 (args:=#[.string ⟨((E.getD i Xg).2.1).toArray⟩]) (Hi E i _ (hv i (by omega))) fun W16 hb16=>?_
  refine xin 13 (Xz Gw (E.getD i Xg).2.1) (0:Int) (fun hc17=>?_) (fun hc17=>?_)
  ·have hB'4:=bln hB_5 hb16
   exact xe 13 (.tuple #[.slice none 0 0,.int .i64 (Xz Gw (E.getD i Xg).2.1)]) (Qp ((Vv (by omega) hok (by rw[hjr];omega)).trans (by rw[hjr])) hB'4)
  have hok2:jOk L.flatten E (i+1):=Io hok (by rw[hjr];omega)
  refine xwm 5 ((↑i:Int)+1) (↑(i+1):Int) ?_
  have hB'5:=bln hB_5 hb16
  have ho'2:=Zb ho_5 hb16
  exact ze 2 (hJ5 _ _ _ ⟨i+1,rfl,rfl,hB'5,ho'2,by omega,hok2⟩ (by omega))
 obtain rfl:i=E.length:=by omega
 refine zl 12 111 (fun zm zkv V=>∃ (k:Nat),zkv=[(1,.slice a E.length ce),(6,.slice p L.flatten.length c),(12,.int .i64 (↑k:Int))]∧zm=L.flatten.length-((↑k:Int)).toNat∧Below w.heap.size w V∧V.ownsRow w.heap.size 3 1 (.slice p L.flatten.length c) L.flatten.length ((Zaj L.flatten E E.length k).map (Value.int .i64))∧k≤L.flatten.length∧(∀ j,j<k→L.flatten.getD j 0=3→∃ m,m<E.length∧Qb E m=(j:Int))) ⟨0,rfl,rfl,hB_5,(by rw[docL_zero];exact ho_5),Nat.zero_le _,?_⟩ ?_
 ·exact fun j hj=>absurd hj (by omega)
 rintro _ _ W18 ⟨k,rfl,rfl,hB_18,ho,hk,hal⟩ J18 hJ18 r18
 refine xid 9 ((↑k:Int)<(↑L.flatten.length:Int)) (fun hc19=>?_) (fun hc19=>?_)
 ·obtain⟨gq,rfl,_⟩:=Jz ho (by omega)
  refine xx 9 _ L.flatten.length k 1 (Hm ho (by omega)).1 ?_
  refine xl 0 (docL_cell (E:=E) (n:=E.length) (k:=k) (Zf ho) (by omega)) ?_
  refine xin 3 (L.flatten.getD k 0) (3:Int) (fun hc20=>?_) (fun hc20=>?_)
  ·refine xwm 6 ((↑k:Int)+1) (↑(k+1):Int) ?_
   have hnk:L.flatten.getD k 0≠3:=by omega
   exact ze 2 (hJ18 _ _ _ ⟨k+1,rfl,rfl,hB_18,(by rw[←docL_keep (E:=E) (n:=E.length) (k:=k) (by omega) (Zf3 hok hnk)];exact ho),by omega,fun j hj h3=>(Nat.lt_or_ge j k).elim (fun q=>hal j q h3) (fun q=>by obtain rfl:j=k:=(by omega);exact absurd h3 hnk)⟩ (by omega))
  refine xc 6 (args:=#[.slice a E.length ce,.int .i64 (↑k:Int)]) (Zg8 a ce E k _ (Sl.below hE hB_18) h0) ?_
  rintro e W21 hq21
  rcases hq21 with ⟨jj,⟨hj1,hj2,hj3⟩,rfl,hb21⟩|⟨hnf,rfl,hb21⟩
  ·refine xk 10 (show(decide ((↑jj:Int)<(0:Int)):Bool)=false from decide_eq_false (by omega)) ?_
   refine xx 6 _ E.length jj 3 (Sts.cell hE Xq Xg (k:=jj) (i:=0) (by omega) rfl).1 ?_
   have hB'6:=bln hB_18 hb21
   refine xl 1 ((Sts.cell (hE.below hB'6) Xq Xg (k:=jj) (i:=1) (by omega) rfl).2) ?_
   refine xr 0 (args:=#[.string ⟨((E.getD jj Xg).2.1).toArray⟩]) (Hi E jj _ (hv jj (by omega))) fun W22 hb22=>?_
   have ho'3:=Zb (Zb ho hb21) hb22
   refine xx 11 _ L.flatten.length k 1 (Hm ho'3 (by omega)).1 ?_
   refine xst 0 fun _ _ _ _ zJ zQ zo zx zy zK=>Wh (t:=3) (k:=k) (v:=.int .i64 (jVal E jj)) zo zx zy (by kernel_rfl) rfl ho'3 (by omega) fun W23 u23 o23=>?_
   rw[docL_setJ (F:=L.flatten) (E:=E) (by omega) hj1 hj2 hj3] at o23
   refine zK _ _ ?_
   refine xwm 5 ((↑k:Int)+1) (↑(k+1):Int) ?_
   have hB'7:=u23.below (bln hB'6 hb22) (Zcn ho'3)
   exact ze 2 (hJ18 _ _ _ ⟨k+1,rfl,rfl,hB'7,o23,by omega,fun j hj h3=>(Nat.lt_or_ge j k).elim (fun q=>hal j q h3) (fun q=>by obtain rfl:j=k:=(by omega);exact⟨jj,hj1,hj2⟩)⟩ (by omega))
  have hB'8:=bln hB_18 hb21
  exact xe 24 (.tuple #[.slice none 0 0,.int .i64 13]) (Qp ((Wr hok).trans (if_neg (open_ne (k:=k) (by omega) hnf))) hB'8)
 refine xe 13 (.tuple #[.slice p L.flatten.length c,.int .i64 0]) ?_
 obtain rfl:k=L.flatten.length:=by omega
 have hnil:=Zfw (F:=L.flatten) (E:=E) (n:=E.length) (fun j hj h3=>hal j hj h3)
 have hj:=(Wr hok).trans (if_pos hnil)
 have ho2:=ho
 rw[docL_all] at ho2
 exact⟨p,c,by rw[hj,Yh],hB_18,by rw[hj,Yh];exact ho2⟩
def Zco(O:List Int×Int×List Int)(w:World)(e:Ending)(w':World):Prop :=
 (O.2.1≠0∧∃ p c a c2,e=.returned (.tuple #[.slice p 0 c,.agg #[.slice a O.1.length c2,.int .i64 O.2.1]])∧Below w.heap.size w w'∧w'.ownsRow w.heap.size 3 1 (.slice a O.1.length c2) O.1.length (O.1.map (Value.int .i64))) ∨
 (O.2.1=0∧∃ p c a c2,e=.returned (.tuple #[.slice p O.2.2.length c,.agg #[.slice a 0 c2,.int .i64 0]])∧Below w.heap.size w w'∧w'.ownsRow w.heap.size 3 1 (.slice p O.2.2.length c) O.2.2.length (O.2.2.map (Value.int .i64)))
theorem Jr{O:List Int×Int×List Int}{bl:List Int}{er:Int}{m c c2:Nat}{w W:World}{p a:Option Addr}(h:O=(bl,er,[]))(her:er≠0)(hm:bl.length=m)(hb:Below w.heap.size w W)(ho:W.ownsRow w.heap.size 3 1 (.slice a m c2) m (bl.map (Value.int .i64))):Zco O w (.returned (.tuple #[.slice p 0 c,.agg #[.slice a m c2,.int .i64 er]])) W:=by
 subst h hm;exact .inl ⟨her,p,c,a,c2,rfl,hb,ho⟩
theorem rout_ok{O:List Int×Int×List Int}{L:List Int}{n c c2:Nat}{w W:World}{p a:Option Addr}(h:O=([],0,L))(hn:L.length=n)(hb:Below w.heap.size w W)(ho:W.ownsRow w.heap.size 3 1 (.slice p n c) n (L.map (Value.int .i64))):Zco O w (.returned (.tuple #[.slice p n c,.agg #[.slice a 0 c2,.int .i64 0]])) W:=by
 subst h hn;exact .inr ⟨rfl,p,c,a,c2,rfl,hb,ho⟩
theorem Zd8(B bm:Nat)(p:Option Addr)(k c:Nat)(l:List UInt8)(no:Int)(w:World)(hI:RefI B bm p k c l w) :
 Calls Tryz.prog 66 #[.pointer (some ⟨bm,0,none⟩),.int .i64 no] w (fun e w' =>
 (Xh l no≠0∧∃ p c a c2,e=.returned (.tuple #[.slice p 0 c,.agg #[.slice a 1 c2,.int .i64 (Xh l no)]])∧Below w.heap.size w w'∧w'.ownsRow w.heap.size 3 1 (.slice a 1 c2) 1 (([no]:List Int).map (Value.int .i64))) ∨
 (Xh l no=0∧∃ p c a c2,e=.returned (.tuple #[.slice p (Qz l no).length c,.agg #[.slice a 0 c2,.int .i64 0]])∧Below w.heap.size w w'∧w'.ownsRow w.heap.size 3 1 (.slice p (Qz l no).length c) (Qz l no).length ((Qz l no).map (Value.int .i64)))):=by
 refine(Zhd B bm p k c l no w hI).mono ?_
 rintro e W ⟨p,c,a5,c5,rfl,hb,ho,hf⟩
 by_cases h:Xh l no=0
 ·refine .inr ⟨h,p,c,a5,c5,?_,hb,ho⟩
  rw[h];rfl
 ·refine .inl ⟨h,p,c,a5,c5,?_,hb,?_⟩
  ·rw[Dy h,Lx h];rfl
  ·rw[Lx h] at hf;exact hf
theorem Cr(B bm:Nat)(p:Option Addr)(k c:Nat)(l:List UInt8)(root tree fuel:Int)(w:World)(hfu:fuel≤1000)(hI:RefI B bm p k c l w) :
 Calls Tryz.prog 34 #[.pointer (some ⟨bm,0,none⟩),.int .i64 root,.int .i64 tree,.int .i64 fuel] w (fun e w' =>
 ((Zg l root tree fuel).fs≠[]∧∃ pe ce pb cb pf nf cf a c2,e=.returned (.tuple #[.agg #[.slice pe 0 ce,.slice pb 0 cb,.int .i64 0,.int .i64 0,.slice pf nf cf],.agg #[.slice a (Xx (Zg l root tree fuel)).1.length c2,.int .i64 (Xx (Zg l root tree fuel)).2]])∧Below w.heap.size w w'∧w'.ownsRow w.heap.size 3 1 (.slice a (Xx (Zg l root tree fuel)).1.length c2) (Xx (Zg l root tree fuel)).1.length ((Xx (Zg l root tree fuel)).1.map (Value.int .i64))) ∨
 ((Zg l root tree fuel).fs=[]∧∃ pe ce pb nb cb dp lk pf nf cf a c2,e=.returned (.tuple #[.agg #[.slice pe (Zg l root tree fuel).es.length ce,.slice pb nb cb,.int .i64 dp,.int .i64 lk,.slice pf nf cf],.agg #[.slice a 0 c2,.int .i64 0]])∧Below w.heap.size w w'∧w'.ownsRow w.heap.size 77 3 (.slice pe (Zg l root tree fuel).es.length ce) (Zg l root tree fuel).es.length ((Zg l root tree fuel).es.flatMap Vd))):=by
 refine(Zca B bm p k c l root tree fuel w hfu hI).mono ?_
 rintro e W ⟨t,pe,pb,pf,ce,cb,cf,fv,a,c2,ht,rfl,hb,hW,hv⟩
 by_cases h:(Zg l root tree fuel).fs=[]
 ·obtain⟨h1,h2,_,_⟩:=Gy h
  rw[h1] at ht
  subst ht
  refine .inr ⟨h,pe,ce,pb,(Zg l root tree fuel).bs.length,cb,(Zg l root tree fuel).deep,((Zg l root tree fuel).looked:Int),pf,fv.length,cf,a,c2,?_,hb,hW.ents⟩
  rw[h2];rfl
 ·obtain⟨h1,h2,h3,h4⟩:=Qs h
  rw[h1] at ht
  subst ht
  exact .inl ⟨h,pe,ce,pb,cb,pf,fv.length,cf,a,c2,rfl,hb,hv⟩
theorem Ao(n:Int)(i:Nat)(w:World)(hi:i≤1200000000)(hn:n≤1099511627776)(hn2:0≤n) :
 Calls Tryz.prog 39 #[.int .i64 n,.int .i64 (↑i:Int)] w (Ret (.int .i64 (Vg n i)) w):=by
 refine zin 14 Tryz.func39 ?_
 refine xwm 10 (960*(↑i:Int)) (↑(960*i):Int) ?_
 refine xw 0 (n-(↑(960*i):Int)) ?_
 refine xid 3 (n-(↑(960*i):Int)<(960:Int)) (fun hc1=>?_) (fun hc1=>?_)
 ·refine xwm 4 (960*(↑i:Int)) (↑(960*i):Int) ?_
  refine xw 0 (n-(↑(960*i):Int)) ?_
  exact xe 5 (.int .i64 (n-(↑(960*i):Int))) ⟨by rw[show Vg n i=n-((960*i:Nat):Int) from by unfold Vg;split<;>omega],(Below.refl w.heap.size _)⟩
 exact xe 8 (.int .i64 960) ⟨by rw[show Vg n i=960 from by unfold Vg;split<;>omega],(Below.refl w.heap.size _)⟩
theorem ref23_one(B bm:Nat)(p:Option Addr)(k c:Nat)(l:List UInt8)(x:Plc)(at0 want:Int)(w:World)(hI:RefI B bm p k c l w)(hat:x.2.1=at0)(h0:x.2.2=0) :
 Calls Tryz.prog 38 #[.pointer (some ⟨bm,0,none⟩),.agg #[.int .i64 (↑x.1.1:Int),.int .i64 (↑x.1.2.1:Int),.int .i64 (↑x.1.2.2:Int)],.int .i64 at0,.int .i64 want] w (Zco (Ti l x want) w):=by
 refine zin 52 Tryz.func38 ?_
 refine xa 2 [.int .i64 (↑x.1.1:Int),.int .i64 (↑x.1.2.1:Int),.int .i64 (↑x.1.2.2:Int)] 79 fun b1 W1 n1=>?_
 refine xa 1 [.slice none 0 0,.int .i64 0] 43 fun b2 W2 n2=>?_
 have k1:=n1.blk.below n2.below
 refine xb 6 0 k1 ?_
 have hB:=bln n1.below n2.below
 refine xc 0 (args:=#[.pointer (some ⟨bm,0,none⟩),.int .i64 (↑x.1.1:Int)]) (Zd8 B bm p k c l (↑x.1.1:Int) _ (hI.below hB)) ?_
 rintro e W3 hq3
 rcases hq3 with ⟨hbe,p9,c9,a9,d9,rfl,hb3,hf9⟩|⟨hbe,p9,c9,a9,d9,rfl,hb3,ho9⟩
 ·have hs3:=(bln n1.below n2.below).size
  refine xa 3 [.slice none 0 0,.int .i64 0] 43 fun b4 W4 n4=>?_
  have k2:=n2.blk.below hb3
  have d4_b2:=n4.ne k2
  have hB'1:=bln hB hb3
  have g4:=n4.ge hB'1
  refine xsv 1 n4.blk [.slice a9 1 d9,.int .i64 (Xh l (↑x.1.1:Int))] fun W5 u5 k5=>?_
  refine xb 6 1 k5 ?_
  refine xk 3 (show(((Xh l (↑x.1.1:Int)) != (0:Int)):Bool)=true from bne_iff_ne.2 hbe) ?_
  refine xlv 3 k5.rp ?_
  have hf9'1:=u5.own2 (Zb (Zd hf9 hs3) n4.below) n4.blk (by decide)
  refine xc 0 (args:=#[.int .i64 at0,.agg #[.slice a9 1 d9,.int .i64 (Xh l (↑x.1.1:Int))]]) (Zb9 at0 (Xh l (↑x.1.1:Int)) a9 1 d9 [(↑x.1.1:Int)] _ hbe rfl (by decide) (Zf hf9'1)) ?_
  rintro _ W6 ⟨_,rfl,hb6,pa,ca,rfl,hva⟩
  have hs6:=(u5.below (bln hB'1 n4.below) g4).size
  have k2'1:=(u5.blk (k2.below n4.below) (Ne.symm (Ne.symm d4_b2))).below hb6
  refine xsv 1 k2'1 [.slice pa (1+1) ca,.int .i64 (Xh l (↑x.1.1:Int))] fun W7 u7 k7=>?_
  have g2:=n2.ge n1.below
  have hva'1:=u7.own2 (Zd hva hs6) k2'1 (by decide)
  have hB'2:=u7.below (bln (u5.below (bln hB'1 n4.below) g4) hb6) g2
  exact xec 4 k7 (.tuple #[.slice none 0 0,.agg #[.slice pa (1+1) ca,.int .i64 (Xh l (↑x.1.1:Int))]]) (Jr (by unfold Ti;rw[if_neg (fun q=>q h0),if_pos hbe,hat]) hbe rfl hB'2 hva'1)
 have hs3:=(bln n1.below n2.below).size
 refine xa 3 [.slice none 0 0,.int .i64 0] 43 fun b8 W8 n8=>?_
 have k2:=n2.blk.below hb3
 have d8_b2:=n8.ne k2
 have hB'3:=bln hB hb3
 have g8:=n8.ge hB'3
 refine xsv 1 n8.blk [.slice a9 0 d9,.int .i64 0] fun W9 u9 k9=>?_
 refine xb 6 1 k9 ?_
 refine xin 15 (↑((Qz l (↑x.1.1:Int)).length):Int) want (fun hc10=>?_) (fun hc10=>?_)
 ·refine xc 3 (args:=#[.int .i64 at0,.int .i64 7]) (Vy at0 7 _ (by decide)) ?_
  rintro _ W11 ⟨pa,ca,rfl,hb11,hva⟩
  have hs11:=(u9.below (bln hB'3 n8.below) g8).size
  have k2'2:=(u9.blk (k2.below n8.below) (Ne.symm (Ne.symm d8_b2))).below hb11
  refine xsv 1 k2'2 [.slice pa 1 ca,.int .i64 7] fun W12 u12 k12=>?_
  have g2:=n2.ge n1.below
  have hva'2:=u12.own2 (Zd hva hs11) k2'2 (by decide)
  have hB'4:=u12.below (bln (u9.below (bln hB'3 n8.below) g8) hb11) g2
  exact xec 4 k12 (.tuple #[.slice none 0 0,.agg #[.slice pa 1 ca,.int .i64 7]]) (Jr (by unfold Ti;rw[if_neg (fun q=>q h0),if_neg (by omega),if_pos (by assumption),hat]) (by decide) rfl hB'4 hva'2)
 have ho9'1:=u9.own2 (Zb (Zd ho9 hs3) n8.below) n8.blk (by decide)
 refine xr 5 (args:=#[.slice p9 ((Qz l (↑x.1.1:Int)).length) c9]) (ref09_Free p9 c9 (Qz l (↑x.1.1:Int)) _ (bitR_le _ _) (Zf ho9'1)) fun W13 hb13=>?_
 have k1'1:=(u9.blkT ((k1.below hb3).below n8.below) n8.blk (by decide)).below hb13
 refine xb 12 1 k1'1 ?_
 refine xg 2 [41,42] ((↑(Yk (Qz l (↑x.1.1:Int))):Int) != (↑x.1.2.1:Int)) (fun hc14=>?_) (fun hc14=>?_)
 ·have hc14:=Qq hc14
  refine xc 11 (args:=#[.int .i64 at0,.int .i64 13]) (Vy at0 13 _ (by decide)) ?_
  rintro _ W15 ⟨pa,ca,rfl,hb15,hva⟩
  have hs15:=(bln (u9.below (bln hB'3 n8.below) g8) hb13).size
  have k2'3:=((u9.blk (k2.below n8.below) (Ne.symm (Ne.symm d8_b2))).below hb13).below hb15
  refine xsv 1 k2'3 [.slice pa 1 ca,.int .i64 13] fun W16 u16 k16=>?_
  have g2:=n2.ge n1.below
  have hva'3:=u16.own2 (Zd hva hs15) k2'3 (by decide)
  have hB'5:=u16.below (bln (bln (u9.below (bln hB'3 n8.below) g8) hb13) hb15) g2
  exact xec 4 k16 (.tuple #[.slice none 0 0,.agg #[.slice pa 1 ca,.int .i64 13]]) (Jr (by unfold Ti;rw[if_neg (fun q=>q h0),if_neg (by omega),if_neg (by omega),if_neg (by omega),hat]) (by decide) rfl hB'5 hva'3)
 have hc14:=Xl hc14
 refine xb 2 2 k1'1 ?_
 refine xin 4 (↑(Xn (Qz l (↑x.1.1:Int))):Int) (↑x.1.2.2:Int) (fun hc17=>?_) (fun hc17=>?_)
 ·refine xc 3 (args:=#[.int .i64 at0,.int .i64 13]) (Vy at0 13 _ (by decide)) ?_
  rintro _ W18 ⟨pa,ca,rfl,hb18,hva⟩
  have hs18:=(bln (u9.below (bln hB'3 n8.below) g8) hb13).size
  have k2'4:=((u9.blk (k2.below n8.below) (Ne.symm (Ne.symm d8_b2))).below hb13).below hb18
  refine xsv 1 k2'4 [.slice pa 1 ca,.int .i64 13] fun W19 u19 k19=>?_
  have g2:=n2.ge n1.below
  have hva'4:=u19.own2 (Zd hva hs18) k2'4 (by decide)
  have hB'6:=u19.below (bln (bln (u9.below (bln hB'3 n8.below) g8) hb13) hb18) g2
  exact xec 4 k19 (.tuple #[.slice none 0 0,.agg #[.slice pa 1 ca,.int .i64 13]]) (Jr (by unfold Ti;rw[if_neg (fun q=>q h0),if_neg (by omega),if_neg (by omega),if_neg (by omega),hat]) (by decide) rfl hB'6 hva'4)
 have k2'5:=(u9.blk (k2.below n8.below) (Ne.symm (Ne.symm d8_b2))).below hb13
 refine xsv 7 k2'5 [.slice none 0 0,.int .i64 0] fun W20 u20 k20=>?_
 have g2:=n2.ge n1.below
 have hB'7:=u20.below (bln (u9.below (bln hB'3 n8.below) g8) hb13) g2
 have ho9'2:=u20.own2 (Zb ho9'1 hb13) k2'5 (by decide)
 exact xec 3 k20 (.tuple #[.slice p9 ((Qz l (↑x.1.1:Int)).length) c9,.agg #[.slice none 0 0,.int .i64 0]]) (rout_ok (by unfold Ti;rw[if_neg (fun q=>q h0),if_neg (by omega),if_neg (by omega),if_pos (by omega)]) rfl hB'7 ho9'2)
theorem ref23_rest(B bm:Nat)(p:Option Addr)(k c:Nat)(l:List UInt8)(B2:Nat)(pl:Option Addr)(cl:Nat)(gs:List (Nat×Nat))(L:List (List Int))(over fuel:Int)(w:World)(hI:RefI B bm p k c l w)(hL:Lists w B2 (.slice pl L.length cl) gs L)(hF:FormOk L)(hl:L.length≤1200000000)(hfu:fuel≤1000) :
 Calls Tryz.prog 40 #[.pointer (some ⟨bm,0,none⟩),.slice pl L.length cl,.int .i64 over,.int .i64 fuel] w (Zco (Pz l L over fuel) w):=by
 refine zin 36 Tryz.func40 ?_
 refine xa 3 [.slice none 0 0,.int .i64 0] 43 fun b1 W1 n1=>?_
 refine xc 7 (args:=#[.pointer (some ⟨bm,0,none⟩),.int .i64 over,.int .i64 5,.int .i64 fuel]) (Cr B bm p k c l over 5 fuel _ hfu (hI.below n1.below)) ?_
 rintro e W2 hq2
 rcases hq2 with ⟨hfs,pe,ce,pb,cb,pf,nf,cf,a9,d9,rfl,hb2,hf9⟩|⟨hfs,pe,ce,pb,nb,cb,dp,lk,pf,nf,cf,a9,d9,rfl,hb2,hen⟩
 ·refine xa 3 [.slice none 0 0,.slice none 0 0,.int .i64 0,.int .i64 0,.slice none 0 0] 87 fun b3 W3 n3=>?_
  have hB'1:=bln n1.below hb2
  have g3:=n3.ge hB'1
  refine xa 0 [.slice none 0 0,.int .i64 0] 43 fun b4 W4 n4=>?_
  have k1:=(n1.blk.below hb2).below n3.below
  have d4_b1:=n4.ne k1
  have hB'2:=bln hB'1 n3.below
  have g4:=n4.ge hB'2
  have k3:=n3.blk.below n4.below
  refine xsv 0 k3 [.slice pe 0 ce,.slice pb 0 cb,.int .i64 0,.int .i64 0,.slice pf nf cf] fun W5 u5 k5=>?_
  have k4:=u5.blkT n4.blk k3 (by decide)
  refine xsv 0 k4 [.slice a9 ((Xx (Zg l over 5 fuel)).1.length) d9,.int .i64 ((Xx (Zg l over 5 fuel)).2)] fun W6 u6 k6=>?_
  refine xb 6 1 k6 ?_
  refine xk 3 (show(((Xx (Zg l over 5 fuel)).2 != (0:Int)):Bool)=true from bne_iff_ne.2 (Uy hfs)) ?_
  refine xd 1 (.t w.heap.size [43]) ?_
  have k6'1:=k6.below (Za W6)
  refine xlv (.o [1] 0) k6'1.rp ?_
  have k1'1:=(u6.blk (u5.blkT (k1.below n4.below) k3 (by decide)) (Ne.symm (Ne.symm d4_b1))).below (Za W6)
  have g1:=n1.ge (Below.refl w.heap.size _)
  refine ysv (.o [] 2) k1'1 [.slice a9 ((Xx (Zg l over 5 fuel)).1.length) d9,.int .i64 ((Xx (Zg l over 5 fuel)).2)] (.t w.heap.size [43]) fun W7 u7 k7=>⟨(Zj u7 k1'1 g1 (by decide)),?_⟩
  have hf9'1:=u7.own2 (Zb (u6.own2 (u5.own2 (Zb (Zb (Zd hf9 n1.below.size) n3.below) n4.below) k3 (by decide)) k4 (by decide)) (Za W6)) k1'1 (by decide)
  have hB'3:=u7.below (bln (u6.below (u5.below (bln hB'2 n4.below) g3) g4) (Za W6)) g1
  exact xec 4 k7 (.tuple #[.slice none 0 0,.agg #[.slice a9 ((Xx (Zg l over 5 fuel)).1.length) d9,.int .i64 ((Xx (Zg l over 5 fuel)).2)]]) (Jr (Za5 hfs) (Uy hfs) rfl hB'3 hf9'1)
 refine xa 3 [.slice none 0 0,.slice none 0 0,.int .i64 0,.int .i64 0,.slice none 0 0] 87 fun b8 W8 n8=>?_
 have hB'4:=bln n1.below hb2
 have g8:=n8.ge hB'4
 refine xa 0 [.slice none 0 0,.int .i64 0] 43 fun b9 W9 n9=>?_
 have k1:=(n1.blk.below hb2).below n8.below
 have d9_b1:=n9.ne k1
 have hB'5:=bln hB'4 n8.below
 have g9:=n9.ge hB'5
 have k8:=n8.blk.below n9.below
 refine xsv 0 k8 [.slice pe ((Zg l over 5 fuel).es.length) ce,.slice pb nb cb,.int .i64 dp,.int .i64 lk,.slice pf nf cf] fun W10 u10 k10=>?_
 have k9:=u10.blkT n9.blk k8 (by decide)
 refine xsv 0 k9 [.slice a9 0 d9,.int .i64 0] fun W11 u11 k11=>?_
 refine xb 6 1 k11 ?_
 have k10'1:=u11.blkT k10 k9 (by decide)
 refine xb 10 0 k10'1 ?_
 have hB'6:=u11.below (u10.below (bln hB'5 n9.below) g8) g9
 have hen'1:=u11.own2 (u10.own2 (Zb (Zb (Zd hen n1.below.size) n8.below) n9.below) k8 (by decide)) k9 (by decide)
 refine xc 0 (args:=#[.slice pl L.length cl,.slice pe ((Zg l over 5 fuel).es.length) ce]) (ref21_Join B2 pl cl gs L pe ce (Zg l over 5 fuel).es _ (hL.below hB'6) hF hl (Zf hen'1) (Py _ _ _ _) (scan_pos _ _ _ _)) ?_
 rintro _ W12 ⟨pj,cj,rfl,hb12,hoj⟩
 have hs12:=(u11.below (u10.below (bln hB'5 n9.below) g8) g9).size
 refine xc 12 (args:=#[.int .i64 over,.int .i64 ((Vu L.flatten (Zg l over 5 fuel).es).1)]) (My over (Vu L.flatten (Zg l over 5 fuel).es).1 _) ?_
 rintro _ W13 ⟨pa,ca,rfl,hb13,hva⟩
 have hs13:=(bln hB'6 hb12).size
 have k1'2:=((u11.blk (u10.blkT (k1.below n9.below) k8 (by decide)) (Ne.symm (Ne.symm d9_b1))).below hb12).below hb13
 refine xsv 1 k1'2 [.slice pa ((Bv over (Vu L.flatten (Zg l over 5 fuel).es).1).length) ca,.int .i64 ((Vu L.flatten (Zg l over 5 fuel).es).1)] fun W14 u14 k14=>?_
 have g1:=n1.ge (Below.refl w.heap.size _)
 have hoj'1:=u14.own2 (Zb (Zd hoj hs12) hb13) k1'2 (by decide)
 have hva'1:=u14.own2 (Zd hva hs13) k1'2 (by decide)
 have hB'7:=u14.below (bln (bln hB'6 hb12) hb13) g1
 refine xec 3 k14 (.tuple #[.slice pj ((Vu L.flatten (Zg l over 5 fuel).es).2.length) cj,.agg #[.slice pa ((Bv over (Vu L.flatten (Zg l over 5 fuel).es).1).length) ca,.int .i64 ((Vu L.flatten (Zg l over 5 fuel).es).1)]]) ?_
 have hoj9:=hoj'1
 have hva9:=hva'1
 by_cases hz:(Vu L.flatten (Zg l over 5 fuel).es).1=0
 ·rw[hz]
  exact rout_ok (Ot hfs hz) rfl hB'7 hoj9
 ·rw[joinO_nil hz]
  rw[Lx hz] at hva9
  rw[Lx hz]
  exact Jr (Ai hfs hz) hz rfl hB'7 hva9
theorem plcE_at{es:List Ent}{i:Nat}(hi:i<es.length):(es.map Kg).getD i Jp=Kg (es.getD i Xg):=by simp[List.getD,hi]
theorem Cc(B bm:Nat)(p:Option Addr)(k c:Nat)(l:List UInt8)(X:List Plc)(n:Int)(i:Nat)(x:Plc)(w:World)(hI:RefI B bm p k c l w)(hx:X.getD i Jp=x)(h0:x.2.2=0)(hw:1≤Vg n i) :
 Calls Tryz.prog 38 #[.pointer (some ⟨bm,0,none⟩),.agg #[.int .i64 (x.1.1:Int),.int .i64 (x.1.2.1:Int),.int .i64 (x.1.2.2:Int)],.int .i64 x.2.1,.int .i64 (Vg n i)] w (fun e w' =>
 ((Hj l X n i).2.1≠0∧∃ p c a c2,e=.returned (.tuple #[.slice p 0 c,.agg #[.slice a (Hj l X n i).1.length c2,.int .i64 (Hj l X n i).2.1]])∧Below w.heap.size w w'∧w'.ownsRow w.heap.size 3 1 (.slice a (Hj l X n i).1.length c2) (Hj l X n i).1.length ((Hj l X n i).1.map (Value.int .i64))) ∨
 ((Hj l X n i).2.1=0∧∃ g c a c2,e=.returned (.tuple #[.slice (some ⟨g,0,none⟩) (Qz l ((X.getD i Jp).1.1:Int)).length c,.agg #[.slice a 0 c2,.int .i64 0]])∧Below w.heap.size w w'∧w'.ownsRow w.heap.size 3 1 (.slice (some ⟨g,0,none⟩) (Qz l ((X.getD i Jp).1.1:Int)).length c) (Qz l ((X.getD i Jp).1.1:Int)).length ((Qz l ((X.getD i Jp).1.1:Int)).map (Value.int .i64)))):=by
 subst hx
 refine(ref23_one B bm p k c l (X.getD i Jp) _ (Vg n i) w hI rfl h0).mono ?_
 rintro e W q
 rcases q with ⟨h,p,c,a,c2,rfl,hb,ho⟩|⟨h,p,c,a,c2,rfl,hb,ho⟩
 ·exact .inl ⟨h,p,c,a,c2,rfl,hb,ho⟩
 ·obtain⟨h1,h2⟩:=Zdc h
  rw[h1] at ho ⊢
  obtain⟨g,rfl,_⟩:=Jz ho (by show 0<(Qz l ((X.getD i Jp).1.1:Int)).length;omega)
  exact .inr ⟨h,g,c,a,c2,rfl,hb,ho⟩
theorem Zc3(m:Nat)(B bm:Nat)(p:Option Addr)(k c:Nat)(l:List UInt8)(B2:Nat)(pl:Option Addr)(cl:Nat)(gs:List (Nat×Nat))(L:List (List Int))(over fuel:Int)(w:World)(hm:L.length=m)(hI:RefI B bm p k c l w)(hL:Lists w B2 (.slice pl L.length cl) gs L)(hF:FormOk L)(hl:L.length≤1200000000)(hfu:fuel≤1000) :
 Calls Tryz.prog 40 #[.pointer (some ⟨bm,0,none⟩),.slice pl m cl,.int .i64 over,.int .i64 fuel] w (Zco (Pz l L over fuel) w):=by
 subst hm;exact ref23_rest B bm p k c l B2 pl cl gs L over fuel w hI hL hF hl hfu
theorem oneI_e{l:List UInt8}{X:List Plc}{n:Int}{i:Nat}{x:Plc}(hx:X.getD i Jp=x)(h:x.2.2≠0):Hj l X n i=([x.2.1],x.2.2,[]):=by unfold Hj Ti;rw[hx,if_pos h]
theorem Af(B bm:Nat)(p:Option Addr)(k c:Nat)(l:List UInt8)(index over n fuel:Int)(w:World)(hI:RefI B bm p k c l w)(hn:n≤1099511627776)(hfu:fuel≤1000) :
 Calls Tryz.prog 17 #[.pointer (some ⟨bm,0,none⟩),.int .i64 index,.int .i64 over,.int .i64 n,.int .i64 fuel] w (Zco (Jc l index over n fuel) w):=by
 refine zin 111 Tryz.func17 ?_
 refine xa 3 [.slice none 0 0,.int .i64 0] 43 fun b1 W1 n1=>?_
 refine xc 7 (args:=#[.pointer (some ⟨bm,0,none⟩),.int .i64 index,.int .i64 4,.int .i64 fuel]) (Cr B bm p k c l index 4 fuel _ hfu (hI.below n1.below)) ?_
 rintro e W2 hq2
 rcases hq2 with ⟨hfs,pe,ce,pb,cb,pf,nf,cf,a9,d9,rfl,hb2,hf9⟩|⟨hfs,pe,ce,pb,nb,cb,dp,lk,pf,nf,cf,a9,d9,rfl,hb2,hen⟩
 ·refine xa 3 [.slice none 0 0,.slice none 0 0,.int .i64 0,.int .i64 0,.slice none 0 0] 87 fun b3 W3 n3=>?_
  have hB'1:=bln n1.below hb2
  have g3:=n3.ge hB'1
  refine xa 0 [.slice none 0 0,.int .i64 0] 43 fun b4 W4 n4=>?_
  have k1:=(n1.blk.below hb2).below n3.below
  have d4_b1:=n4.ne k1
  have hB'2:=bln hB'1 n3.below
  have g4:=n4.ge hB'2
  have k3:=n3.blk.below n4.below
  refine xsv 0 k3 [.slice pe 0 ce,.slice pb 0 cb,.int .i64 0,.int .i64 0,.slice pf nf cf] fun W5 u5 k5=>?_
  have k4:=u5.blkT n4.blk k3 (by decide)
  refine xsv 0 k4 [.slice a9 ((Xx (Zg l index 4 fuel)).1.length) d9,.int .i64 ((Xx (Zg l index 4 fuel)).2)] fun W6 u6 k6=>?_
  refine xb 6 1 k6 ?_
  refine xk 3 (show(((Xx (Zg l index 4 fuel)).2 != (0:Int)):Bool)=true from bne_iff_ne.2 (Uy hfs)) ?_
  refine xd 1 (.t w.heap.size [43]) ?_
  have k6'1:=k6.below (Za W6)
  refine xlv (.o [1] 0) k6'1.rp ?_
  have k1'1:=(u6.blk (u5.blkT (k1.below n4.below) k3 (by decide)) (Ne.symm (Ne.symm d4_b1))).below (Za W6)
  have g1:=n1.ge (Below.refl w.heap.size _)
  refine ysv (.o [] 2) k1'1 [.slice a9 ((Xx (Zg l index 4 fuel)).1.length) d9,.int .i64 ((Xx (Zg l index 4 fuel)).2)] (.t w.heap.size [43]) fun W7 u7 k7=>⟨(Zj u7 k1'1 g1 (by decide)),?_⟩
  have hf9'1:=u7.own2 (Zb (u6.own2 (u5.own2 (Zb (Zb (Zd hf9 n1.below.size) n3.below) n4.below) k3 (by decide)) k4 (by decide)) (Za W6)) k1'1 (by decide)
  have hB'3:=u7.below (bln (u6.below (u5.below (bln hB'2 n4.below) g3) g4) (Za W6)) g1
  exact xec 4 k7 (.tuple #[.slice none 0 0,.agg #[.slice a9 ((Xx (Zg l index 4 fuel)).1.length) d9,.int .i64 ((Xx (Zg l index 4 fuel)).2)]]) (Jr (Zam hfs) (Uy hfs) rfl hB'3 hf9'1)
 refine xa 3 [.slice none 0 0,.slice none 0 0,.int .i64 0,.int .i64 0,.slice none 0 0] 87 fun b8 W8 n8=>?_
 have hB'4:=bln n1.below hb2
 have g8:=n8.ge hB'4
 refine xa 0 [.slice none 0 0,.int .i64 0] 43 fun b9 W9 n9=>?_
 have k1:=(n1.blk.below hb2).below n8.below
 have d9_b1:=n9.ne k1
 have hB'5:=bln hB'4 n8.below
 have g9:=n9.ge hB'5
 have k8:=n8.blk.below n9.below
 refine xsv 0 k8 [.slice pe ((Zg l index 4 fuel).es.length) ce,.slice pb nb cb,.int .i64 dp,.int .i64 lk,.slice pf nf cf] fun W10 u10 k10=>?_
 have k9:=u10.blkT n9.blk k8 (by decide)
 refine xsv 0 k9 [.slice a9 0 d9,.int .i64 0] fun W11 u11 k11=>?_
 refine xb 6 1 k11 ?_
 refine xd 8 .z ?_
 have k10'1:=(u11.blkT k10 k9 (by decide)).below (Za W11)
 refine xb (.e [0] 1) 0 k10'1 ?_
 refine xr (.o [2,3] 4) (args:=#[.int .i64 n]) (Sv n _ hn) fun W12 hb12=>?_
 refine xin (.r [5] 2) (↑((Zg l index 4 fuel).es.length):Int) (↑(bmI n):Int) (fun hc13=>?_) (fun hc13=>?_)
 ·have hne:(Zg l index 4 fuel).es.length≠bmI n:=by omega
  refine xc 3 (args:=#[.int .i64 index,.int .i64 7]) (Vy index 7 _ (by decide)) ?_
  rintro _ W14 ⟨pa,ca,rfl,hb14,hva⟩
  have hs14:=(bln (bln (u11.below (u10.below (bln hB'5 n9.below) g8) g9) (Za W11)) hb12).size
  have k1'2:=(((u11.blk (u10.blkT (k1.below n9.below) k8 (by decide)) (Ne.symm (Ne.symm d9_b1))).below (Za W11)).below hb12).below hb14
  refine xsv 1 k1'2 [.slice pa 1 ca,.int .i64 7] fun W15 u15 k15=>?_
  have g1:=n1.ge (Below.refl w.heap.size _)
  have hva'1:=u15.own2 (Zd hva hs14) k1'2 (by decide)
  have hB'6:=u15.below (bln (bln (bln (u11.below (u10.below (bln hB'5 n9.below) g8) g9) (Za W11)) hb12) hb14) g1
  exact xec 4 k15 (.tuple #[.slice none 0 0,.agg #[.slice pa 1 ca,.int .i64 7]]) (Jr (Zce hfs hne) (by decide) rfl hB'6 hva'1)
 have hlen:(Zg l index 4 fuel).es.length=bmI n:=by omega
 have hxm:=Zfc hn
 have hen'1:=Zb (Zb (u11.own2 (u10.own2 (Zb (Zb (Zd hen n1.below.size) n8.below) n9.below) k8 (by decide)) k9 (by decide)) (Za W11)) hb12
 have hB'7:=bln (bln (u11.below (u10.below (bln hB'5 n9.below) g8) g9) (Za W11)) hb12
 have k1'3:=((u11.blk (u10.blkT (k1.below n9.below) k8 (by decide)) (Ne.symm (Ne.symm d9_b1))).below (Za W11)).below hb12
 have k10'2:=k10'1.below hb12
 have k11'1:=(k11.below (Za W11)).below hb12
 refine zl 9 111 (fun zm zkv V=>∃ (i:Nat),zkv=[(0,.pointer (some ⟨bm,0,none⟩)),(1,.int .i64 index),(2,.int .i64 over),(3,.int .i64 n),(4,.int .i64 fuel),(11,.pointer (some ⟨b1,0,none⟩)),(12,.pointer (some ⟨b8,0,none⟩)),(14,.int .i64 (↑i:Int))]∧zm=(Zg l index 4 fuel).es.length-((↑i:Int)).toNat∧Below w.heap.size w V∧Blk V b1 ([.slice none 0 0,.int .i64 0]) 43∧Blk V b8 ([.slice pe ((Zg l index 4 fuel).es.length) ce,.slice pb nb cb,.int .i64 dp,.int .i64 lk,.slice pf nf cf]) 87∧Blk V b9 ([.slice a9 0 d9,.int .i64 0]) 43∧V.ownsRow w.heap.size 77 3 (.slice pe (Zg l index 4 fuel).es.length ce) (Zg l index 4 fuel).es.length ((Zg l index 4 fuel).es.flatMap Vd)∧i≤(Zg l index 4 fuel).es.length∧(∀ j,j<i→((Zg l index 4 fuel).es.getD j Xg).1=(j:Int))) ⟨0,rfl,rfl,hB'7,k1'3,k10'2,k11'1,hen'1,Nat.zero_le _,?_⟩ ?_
 ·exact fun j hj=>absurd hj (by omega)
 rintro _ _ W16 ⟨i,rfl,rfl,hB_16,k16_b1,k16_b8,k16_b9,hen,hi,hky⟩ J16 hJ16 r16
 refine xb 5 0 k16_b8 ?_
 refine xid 4 ((↑i:Int)<(↑((Zg l index 4 fuel).es.length):Int)) (fun hc17=>?_) (fun hc17=>?_)
 ·refine xb 7 0 k16_b8 ?_
  refine xx 1 _ ((Zg l index 4 fuel).es.length) i 3 (Sts.cell (f:=Vd) (Zf hen) Xq Xg (k:=i) (i:=0) (by omega) rfl).1 ?_
  refine xl 1 ((Sts.cell (f:=Vd) (Zf hen) Xq Xg (k:=i) (i:=0) (by omega) rfl).2) ?_
  refine xin 4 (((Zg l index 4 fuel).es.getD i Xg).1) (↑i:Int) (fun hc18=>?_) (fun hc18=>?_)
  ·refine xc 3 (args:=#[.int .i64 index,.int .i64 7]) (Vy index 7 _ (by decide)) ?_
   rintro _ W19 ⟨pa,ca,rfl,hb19,hva⟩
   have k16_b1'1:=k16_b1.below hb19
   refine xsv 1 k16_b1'1 [.slice pa 1 ca,.int .i64 7] fun W20 u20 k20=>?_
   have g1:=n1.ge (Below.refl w.heap.size _)
   have hva'2:=u20.own2 (Zd hva hB_16.size) k16_b1'1 (by decide)
   have hB'8:=u20.below (bln hB_16 hb19) g1
   exact xec 8 k20 (.tuple #[.slice none 0 0,.agg #[.slice pa 1 ca,.int .i64 7]]) (Jr (Zcc hfs hlen (i:=i) (by omega) (by assumption)) (by decide) rfl hB'8 hva'2)
  refine xwm 5 ((↑i:Int)+1) (↑(i+1):Int) ?_
  exact ze 2 (hJ16 _ _ _ ⟨i+1,rfl,rfl,hB_16,k16_b1,k16_b8,k16_b9,hen,by omega,fun j hj=>(Nat.lt_or_ge j i).elim (hky j) (fun q=>by obtain rfl:j=i:=(by omega);omega)⟩ (by omega))
 have hkz:∀ j,j<(Zg l index 4 fuel).es.length→((Zg l index 4 fuel).es.getD j Xg).1=(j:Int):=fun j hj=>hky j (by omega)
 have hXl:((Zg l index 4 fuel).es.map Kg).length=(Zg l index 4 fuel).es.length:=List.length_map _
 clear hky
 refine zl 17 111 (fun zm zkv V=>∃ (i:Nat) (gs:List (Nat×Nat)) (pq:Option Addr) (cq:Nat),zkv=[(0,.pointer (some ⟨bm,0,none⟩)),(2,.int .i64 over),(3,.int .i64 n),(4,.int .i64 fuel),(11,.pointer (some ⟨b1,0,none⟩)),(12,.pointer (some ⟨b8,0,none⟩)),(15,.slice pq i cq),(16,.int .i64 (↑i:Int))]∧zm=(Zg l index 4 fuel).es.length-((↑i:Int)).toNat∧Below w.heap.size w V∧Blk V b1 ([.slice none 0 0,.int .i64 0]) 43∧Blk V b8 ([.slice pe ((Zg l index 4 fuel).es.length) ce,.slice pb nb cb,.int .i64 dp,.int .i64 lk,.slice pf nf cf]) 87∧Blk V b9 ([.slice a9 0 d9,.int .i64 0]) 43∧V.ownsRow w.heap.size 77 3 (.slice pe (Zg l index 4 fuel).es.length ce) (Zg l index 4 fuel).es.length ((Zg l index 4 fuel).es.flatMap Vd)∧V.ownsRow w.heap.size 30 1 (.slice pq i cq) i ((List.range i).map (Cb gs (Gl l ((Zg l index 4 fuel).es.map Kg) n i)))∧Each V w.heap.size gs (Gl l ((Zg l index 4 fuel).es.map Kg) n i)∧i≤(Zg l index 4 fuel).es.length∧gs.length=i∧allK l ((Zg l index 4 fuel).es.map Kg) n i) ⟨0,[],none,0,rfl,rfl,hB_16,k16_b1,k16_b8,k16_b9,hen,World.ownsRow_nil _ _ _ _,(fun j hj=>absurd hj (by rw[Yw];omega)),Nat.zero_le _,rfl,(fun j hj=>absurd hj (by omega))⟩ ?_
 rintro _ _ W21 ⟨i,gs,pq,cq,rfl,rfl,hB_21,k21_b1,k21_b8,k21_b9,hen_21,ho,hEa,hi_21,hgl,hok⟩ J21 hJ21 r21
 have hrm:=fun(q:i<(Zg l index 4 fuel).es.length)=>rem_in hlen q
 refine xb 5 0 k21_b8 ?_
 refine xid 4 ((↑i:Int)<(↑((Zg l index 4 fuel).es.length):Int)) (fun hc22=>?_) (fun hc22=>?_)
 ·refine xb 7 0 k21_b8 ?_
  refine xx 1 _ ((Zg l index 4 fuel).es.length) i 3 (Sts.cell (f:=Vd) (Zf hen_21) Xq Xg (k:=i) (i:=0) (by omega) rfl).1 ?_
  refine xl 1 ((Sts.cell (f:=Vd) (Zf hen_21) Xq Xg (k:=i) (i:=2) (by omega) rfl).2) ?_
  refine xb 6 0 k21_b8 ?_
  refine xx 1 _ ((Zg l index 4 fuel).es.length) i 3 (Sts.cell (f:=Vd) (Zf hen_21) Xq Xg (k:=i) (i:=0) (by omega) rfl).1 ?_
  refine xl 1 ((Sts.cell (f:=Vd) (Zf hen_21) Xq Xg (k:=i) (i:=1) (by omega) rfl).2) ?_
  refine xr 0 (args:=#[.string ⟨(((Zg l index 4 fuel).es.getD i Xg).2.1).toArray⟩]) (Su ((Zg l index 4 fuel).es.getD i Xg).2.1 _ (Py _ _ _ _ i (by omega))) fun W23 hb23=>?_
  refine xa 3 [.int .i64 0,.int .i64 0,.int .i64 0] 79 fun b24 W24 n24=>?_
  have hB'9:=bln hB_21 hb23
  have g24:=n24.ge hB'9
  refine xsv 0 n24.blk [.int .i64 (↑((Xr Xp ((Zg l index 4 fuel).es.getD i Xg).2.1).getD 0 0):Int),.int .i64 (↑((Xr Xp ((Zg l index 4 fuel).es.getD i Xg).2.1).getD 1 0):Int),.int .i64 (↑((Xr Xp ((Zg l index 4 fuel).es.getD i Xg).2.1).getD 2 0):Int)] fun W25 u25 k25=>?_
  refine xin 10 (Xz Xp ((Zg l index 4 fuel).es.getD i Xg).2.1) (0:Int) (fun hc26=>?_) (fun hc26=>?_)
  ·have hxi:=plcE_at (es:=(Zg l index 4 fuel).es) (i:=i) (by omega)
   refine xc 4 (args:=#[.int .i64 (((Zg l index 4 fuel).es.getD i Xg).2.2),.int .i64 (Xz Xp ((Zg l index 4 fuel).es.getD i Xg).2.1)]) (Vy (((Zg l index 4 fuel).es.getD i Xg).2.2) (Xz Xp ((Zg l index 4 fuel).es.getD i Xg).2.1) _ (by assumption)) ?_
   rintro _ W27 ⟨pa,ca,rfl,hb27,hva⟩
   have hs27:=(u25.below (bln hB'9 n24.below) g24).size
   have k21_b1'1:=(u25.blkT ((k21_b1.below hb23).below n24.below) n24.blk (by decide)).below hb27
   refine xsv 1 k21_b1'1 [.slice pa 1 ca,.int .i64 (Xz Xp ((Zg l index 4 fuel).es.getD i Xg).2.1)] fun W28 u28 k28=>?_
   have g1:=n1.ge (Below.refl w.heap.size _)
   have hva'3:=u28.own2 (Zd hva hs27) k21_b1'1 (by decide)
   have hB'10:=u28.below (bln (u25.below (bln hB'9 n24.below) g24) hb27) g1
   exact xec 9 k28 (.tuple #[.slice none 0 0,.agg #[.slice pa 1 ca,.int .i64 (Xz Xp ((Zg l index 4 fuel).es.getD i Xg).2.1)]]) (Jr (by rw[Hc hfs hlen hkz,Mn (by omega) hok (by rw[oneI_e hxi (by assumption)];assumption),oneI_e hxi (by assumption)];rfl) (by assumption) rfl hB'10 hva'3)
  have hxi:=plcE_at (es:=(Zg l index 4 fuel).es) (i:=i) (by omega)
  refine xd 3 (.t w.heap.size [43]) ?_
  have k25'1:=k25.below (Za W25)
  refine xlvt (.e [0] 1) (.t w.heap.size [43]) (fun V hV=>(k25'1.only hV.2 (by decide)).rp) ?_
  refine xm2 (.b [2,3,4]) 5 10 ?_ ?_
  ·refine xr 0 (args:=#[.int .i64 n,.int .i64 (↑i:Int)]) (Ao n i _ (by omega) hn (by have:=(hrm (by omega)).2.1;omega)) fun W29 hb29=>?_
   refine xm2 0 6 10 ?_ ?_
   ·have hB'11:=bln (bln (u25.below (bln hB'9 n24.below) g24) (Za W25)) hb29
    refine yc 0 (args:=#[.pointer (some ⟨bm,0,none⟩),.agg #[.int .i64 (↑((Xr Xp ((Zg l index 4 fuel).es.getD i Xg).2.1).getD 0 0):Int),.int .i64 (↑((Xr Xp ((Zg l index 4 fuel).es.getD i Xg).2.1).getD 1 0):Int),.int .i64 (↑((Xr Xp ((Zg l index 4 fuel).es.getD i Xg).2.1).getD 2 0):Int)],.int .i64 (((Zg l index 4 fuel).es.getD i Xg).2.2),.int .i64 (Vg n i)]) (.t w.heap.size [43]) (Cc B bm p k c l ((Zg l index 4 fuel).es.map Kg) n i (Kg ((Zg l index 4 fuel).es.getD i Xg)) _ (hI.below hB'11) hxi (show Xz Xp ((Zg l index 4 fuel).es.getD i Xg).2.1=0 by omega) (hrm (by omega)).2.2.2.1) ?_
    rintro e W30 hq30
    rcases hq30 with ⟨hbe,p9,c9,a9,d9,rfl,hb30,hf9⟩|⟨hbe,g9,c9,a9,d9,rfl,hb30,ho9⟩
    ·have hs30:=(bln (bln (u25.below (bln hB'9 n24.below) g24) (Za W25)) hb29).size
     refine⟨(SF.of_below _ hb30),?_⟩
     refine xa (.o [7,8,9] 10) [.slice none 0 0,.int .i64 0] 43 fun b31 W31 n31=>?_
     have k21_b1'2:=(((u25.blkT ((k21_b1.below hb23).below n24.below) n24.blk (by decide)).below (Za W25)).below hb29).below hb30
     have d31_b1:=n31.ne k21_b1'2
     have k21_b9'1:=(((u25.blkT ((k21_b9.below hb23).below n24.below) n24.blk (by decide)).below (Za W25)).below hb29).below hb30
     have d31_b9:=n31.ne k21_b9'1
     have hB'12:=bln hB'11 hb30
     have g31:=n31.ge hB'12
     refine ysv (.o [11] 12) n31.blk [.slice a9 ((Hj l ((Zg l index 4 fuel).es.map Kg) n i).1.length) d9,.int .i64 ((Hj l ((Zg l index 4 fuel).es.map Kg) n i).2.1)] (.t w.heap.size [43]) fun W32 u32 k32=>⟨(Zj u32 n31.blk g31 (by decide)),?_⟩
     refine xb 6 1 k32 ?_
     refine xk 3 (show(((Hj l ((Zg l index 4 fuel).es.map Kg) n i).2.1 != (0:Int)):Bool)=true from bne_iff_ne.2 hbe) ?_
     refine xd 1 (.t w.heap.size [43]) ?_
     have k32'1:=k32.below (Za W32)
     refine xlv (.o [1] 0) k32'1.rp ?_
     have k21_b1'3:=(u32.blk (k21_b1'2.below n31.below) (Ne.symm (Ne.symm d31_b1))).below (Za W32)
     have g1:=n1.ge (Below.refl w.heap.size _)
     refine ysv (.o [] 2) k21_b1'3 [.slice a9 ((Hj l ((Zg l index 4 fuel).es.map Kg) n i).1.length) d9,.int .i64 ((Hj l ((Zg l index 4 fuel).es.map Kg) n i).2.1)] (.t w.heap.size [43]) fun W33 u33 k33=>⟨(Zj u33 k21_b1'3 g1 (by decide)),?_⟩
     have hf9'2:=u33.own2 (Zb (u32.own2 (Zb (Zd hf9 hs30) n31.below) n31.blk (by decide)) (Za W32)) k21_b1'3 (by decide)
     have hB'13:=u33.below (bln (u32.below (bln hB'12 n31.below) g31) (Za W32)) g1
     refine xec 9 k33 (.tuple #[.slice none 0 0,.agg #[.slice a9 ((Hj l ((Zg l index 4 fuel).es.map Kg) n i).1.length) d9,.int .i64 ((Hj l ((Zg l index 4 fuel).es.map Kg) n i).2.1)]]) ?_
     rw[Hc hfs hlen hkz,Mn (by omega) hok hbe]
     exact .inl ⟨hbe,none,0,a9,d9,rfl,hB'13,hf9'2⟩
    have hs30:=(bln (bln (u25.below (bln hB'9 n24.below) g24) (Za W25)) hb29).size
    refine⟨(SF.of_below _ hb30),?_⟩
    refine xa (.o [7,8,9] 10) [.slice none 0 0,.int .i64 0] 43 fun b34 W34 n34=>?_
    have k21_b1'4:=(((u25.blkT ((k21_b1.below hb23).below n24.below) n24.blk (by decide)).below (Za W25)).below hb29).below hb30
    have d34_b1:=n34.ne k21_b1'4
    have k21_b9'2:=(((u25.blkT ((k21_b9.below hb23).below n24.below) n24.blk (by decide)).below (Za W25)).below hb29).below hb30
    have d34_b9:=n34.ne k21_b9'2
    have hB'14:=bln hB'11 hb30
    have g34:=n34.ge hB'14
    refine ysv (.o [11] 12) n34.blk [.slice a9 0 d9,.int .i64 0] (.t w.heap.size [43]) fun W35 u35 k35=>⟨(Zj u35 n34.blk g34 (by decide)),?_⟩
    refine xb 6 1 k35 ?_
    refine xbs 9 1 [.slice (some ⟨g9,0,none⟩) ((Qz l (↑(((Zg l index 4 fuel).es.map Kg).getD i Jp).1.1:Int)).length) c9] 30 fun b36 W36 n36=>?_
    have hB'15:=u35.below (bln hB'14 n34.below) g34
    have g36:=n36.ge hB'15
    have ho'1:=u35.own2 (Zb (Zb (Zb (Zb (u25.own2 (Zb (Zb ho hb23) n24.below) n24.blk (by decide)) (Za W25)) hb29) hb30) n34.below) n34.blk (by decide)
    have r36_ho:=Zu ho'1 n36
    have ho'2:=Zb ho'1 n36.below
    have hB'16:=bln hB'15 n36.below
    refine xbi 0 fun _ _ _ _ zJ zQ zo zx zy zK=>Zp (m:=1) (news:=[.slice (some ⟨g9,0,none⟩) ((Qz l (↑(((Zg l index 4 fuel).es.map Kg).getD i Jp).1.1:Int)).length) c9]) (.slice none 0 0) 1 24 (i+1) (((List.range (i+1)).map (Cb (gs++[(g9,c9)]) (Gl l ((Zg l index 4 fuel).es.map Kg) n (i+1))))) zo Tryz.underlying91 (by kernel_rfl) rfl (by decide) zx ho'2 zy (n36.blk.sl 1 1 (by decide) (by decide)) rfl (by simp[Value.oneCell']) (by unfold maxLen;omega) (by omega) hB'16.size (rfl) (by rw[←La hgl]) fun px37 cx37 W37 o37 hg37 hb37=>?_
    refine zK _ _ ?_
    refine xwm 6 ((↑i:Int)+1) (↑(i+1):Int) ?_
    have hEa'1:=(((((((((hEa.below hb23).below n24.below).only (Ze.of_upd (T:=[79]) u25 n24.blk (by decide)) (by decide)).below (Za W25)).below hb29).below hb30).below n34.below).only (Ze.of_upd (T:=[43]) u35 n34.blk (by decide)) (by decide)).below n36.below).only (Ze.of_grown (T:=[30]) hg37 ho'2 (by decide)) (by decide)
    have ho9'1:=Zh (Zb (u35.own2 (Zb (Zd ho9 hs30) n34.below) n34.blk (by decide)) n36.below) hg37 ho'2 (by decide)
    have hB'17:=hB'16.trans hb37
    have k21_b1'5:=((u35.blk (k21_b1'4.below n34.below) (Ne.symm (Ne.symm d34_b1))).below n36.below).grown hg37 ho'2 (by decide)
    have k21_b8'1:=((u35.blkT (((((u25.blkT ((k21_b8.below hb23).below n24.below) n24.blk (by decide)).below (Za W25)).below hb29).below hb30).below n34.below) n34.blk (by decide)).below n36.below).grown hg37 ho'2 (by decide)
    have k21_b9'3:=((u35.blk (k21_b9'2.below n34.below) (Ne.symm (Ne.symm d34_b9))).below n36.below).grown hg37 ho'2 (by decide)
    have hen'2:=Zh (Zb (u35.own2 (Zb (Zb (Zb (Zb (u25.own2 (Zb (Zb hen_21 hb23) n24.below) n24.blk (by decide)) (Za W25)) hb29) hb30) n34.below) n34.blk (by decide)) n36.below) hg37 ho'2 (by decide)
    exact ze 2 (hJ21 _ _ _ ⟨i+1,gs++[(g9,c9)],_,_,rfl,rfl,hB'17,k21_b1'5,k21_b8'1,k21_b9'3,hen'2,o37,(Mu hEa'1 hgl ho9'1),by omega,by rw[List.length_append,hgl];rfl,Ml hok hbe⟩ (by omega))
   refine xa 0 [.slice none 0 0,.int .i64 0] 43 fun b38 W38 n38=>?_
   have k21_b1'6:=((u25.blkT ((k21_b1.below hb23).below n24.below) n24.blk (by decide)).below (Za W25)).below hb29
   have d38_b1:=n38.ne k21_b1'6
   have k21_b9'4:=((u25.blkT ((k21_b9.below hb23).below n24.below) n24.blk (by decide)).below (Za W25)).below hb29
   have d38_b9:=n38.ne k21_b9'4
   have hB'18:=bln (bln (u25.below (bln hB'9 n24.below) g24) (Za W25)) hb29
   have g38:=n38.ge hB'18
   have hB'19:=bln hB'18 n38.below
   refine yc (.o [] 6) (args:=#[.pointer (some ⟨bm,0,none⟩),.agg #[.int .i64 (↑((Xr Xp ((Zg l index 4 fuel).es.getD i Xg).2.1).getD 0 0):Int),.int .i64 (↑((Xr Xp ((Zg l index 4 fuel).es.getD i Xg).2.1).getD 1 0):Int),.int .i64 (↑((Xr Xp ((Zg l index 4 fuel).es.getD i Xg).2.1).getD 2 0):Int)],.int .i64 (((Zg l index 4 fuel).es.getD i Xg).2.2),.int .i64 (Vg n i)]) (.t w.heap.size [43]) (Cc B bm p k c l ((Zg l index 4 fuel).es.map Kg) n i (Kg ((Zg l index 4 fuel).es.getD i Xg)) _ (hI.below hB'19) hxi (show Xz Xp ((Zg l index 4 fuel).es.getD i Xg).2.1=0 by omega) (hrm (by omega)).2.2.2.1) ?_
   rintro e W39 hq39
   rcases hq39 with ⟨hbe,p9,c9,a9,d9,rfl,hb39,hf9⟩|⟨hbe,g9,c9,a9,d9,rfl,hb39,ho9⟩
   ·have hs39:=(bln hB'18 n38.below).size
    refine⟨(SF.of_below _ hb39),?_⟩
    have k38:=n38.blk.below hb39
    refine ysv (.o [7,8,9,11] 12) k38 [.slice a9 ((Hj l ((Zg l index 4 fuel).es.map Kg) n i).1.length) d9,.int .i64 ((Hj l ((Zg l index 4 fuel).es.map Kg) n i).2.1)] (.t w.heap.size [43]) fun W40 u40 k40=>⟨(Zj u40 k38 g38 (by decide)),?_⟩
    refine xb 6 1 k40 ?_
    refine xk 3 (show(((Hj l ((Zg l index 4 fuel).es.map Kg) n i).2.1 != (0:Int)):Bool)=true from bne_iff_ne.2 hbe) ?_
    refine xd 1 (.t w.heap.size [43]) ?_
    have k40'1:=k40.below (Za W40)
    refine xlv (.o [1] 0) k40'1.rp ?_
    have k21_b1'7:=(u40.blk ((k21_b1'6.below n38.below).below hb39) (Ne.symm (Ne.symm d38_b1))).below (Za W40)
    have g1:=n1.ge (Below.refl w.heap.size _)
    refine ysv (.o [] 2) k21_b1'7 [.slice a9 ((Hj l ((Zg l index 4 fuel).es.map Kg) n i).1.length) d9,.int .i64 ((Hj l ((Zg l index 4 fuel).es.map Kg) n i).2.1)] (.t w.heap.size [43]) fun W41 u41 k41=>⟨(Zj u41 k21_b1'7 g1 (by decide)),?_⟩
    have hf9'3:=u41.own2 (Zb (u40.own2 (Zd hf9 hs39) k38 (by decide)) (Za W40)) k21_b1'7 (by decide)
    have hB'20:=u41.below (bln (u40.below (bln hB'19 hb39) g38) (Za W40)) g1
    refine xec 9 k41 (.tuple #[.slice none 0 0,.agg #[.slice a9 ((Hj l ((Zg l index 4 fuel).es.map Kg) n i).1.length) d9,.int .i64 ((Hj l ((Zg l index 4 fuel).es.map Kg) n i).2.1)]]) ?_
    rw[Hc hfs hlen hkz,Mn (by omega) hok hbe]
    exact .inl ⟨hbe,none,0,a9,d9,rfl,hB'20,hf9'3⟩
   have hs39:=(bln hB'18 n38.below).size
   refine⟨(SF.of_below _ hb39),?_⟩
   have k38:=n38.blk.below hb39
   refine ysv (.o [7,8,9,11] 12) k38 [.slice a9 0 d9,.int .i64 0] (.t w.heap.size [43]) fun W42 u42 k42=>⟨(Zj u42 k38 g38 (by decide)),?_⟩
   refine xb 6 1 k42 ?_
   refine xbs 9 1 [.slice (some ⟨g9,0,none⟩) ((Qz l (↑(((Zg l index 4 fuel).es.map Kg).getD i Jp).1.1:Int)).length) c9] 30 fun b43 W43 n43=>?_
   have hB'21:=u42.below (bln hB'19 hb39) g38
   have g43:=n43.ge hB'21
   have ho'3:=u42.own2 (Zb (Zb (Zb (Zb (u25.own2 (Zb (Zb ho hb23) n24.below) n24.blk (by decide)) (Za W25)) hb29) n38.below) hb39) k38 (by decide)
   have r43_ho:=Zu ho'3 n43
   have ho'4:=Zb ho'3 n43.below
   have hB'22:=bln hB'21 n43.below
   refine xbi 0 fun _ _ _ _ zJ zQ zo zx zy zK=>Zp (m:=1) (news:=[.slice (some ⟨g9,0,none⟩) ((Qz l (↑(((Zg l index 4 fuel).es.map Kg).getD i Jp).1.1:Int)).length) c9]) (.slice none 0 0) 1 24 (i+1) (((List.range (i+1)).map (Cb (gs++[(g9,c9)]) (Gl l ((Zg l index 4 fuel).es.map Kg) n (i+1))))) zo Tryz.underlying91 (by kernel_rfl) rfl (by decide) zx ho'4 zy (n43.blk.sl 1 1 (by decide) (by decide)) rfl (by simp[Value.oneCell']) (by unfold maxLen;omega) (by omega) hB'22.size (rfl) (by rw[←La hgl]) fun px44 cx44 W44 o44 hg44 hb44=>?_
   refine zK _ _ ?_
   refine xwm 6 ((↑i:Int)+1) (↑(i+1):Int) ?_
   have hEa'2:=(((((((((hEa.below hb23).below n24.below).only (Ze.of_upd (T:=[79]) u25 n24.blk (by decide)) (by decide)).below (Za W25)).below hb29).below n38.below).below hb39).only (Ze.of_upd (T:=[43]) u42 k38 (by decide)) (by decide)).below n43.below).only (Ze.of_grown (T:=[30]) hg44 ho'4 (by decide)) (by decide)
   have ho9'2:=Zh (Zb (u42.own2 (Zd ho9 hs39) k38 (by decide)) n43.below) hg44 ho'4 (by decide)
   have hB'23:=hB'22.trans hb44
   have k21_b1'8:=((u42.blk ((k21_b1'6.below n38.below).below hb39) (Ne.symm (Ne.symm d38_b1))).below n43.below).grown hg44 ho'4 (by decide)
   have k21_b8'2:=((u42.blkT (((((u25.blkT ((k21_b8.below hb23).below n24.below) n24.blk (by decide)).below (Za W25)).below hb29).below n38.below).below hb39) k38 (by decide)).below n43.below).grown hg44 ho'4 (by decide)
   have k21_b9'5:=((u42.blk ((k21_b9'4.below n38.below).below hb39) (Ne.symm (Ne.symm d38_b9))).below n43.below).grown hg44 ho'4 (by decide)
   have hen'3:=Zh (Zb (u42.own2 (Zb (Zb (Zb (Zb (u25.own2 (Zb (Zb hen_21 hb23) n24.below) n24.blk (by decide)) (Za W25)) hb29) n38.below) hb39) k38 (by decide)) n43.below) hg44 ho'4 (by decide)
   exact ze 2 (hJ21 _ _ _ ⟨i+1,gs++[(g9,c9)],_,_,rfl,rfl,hB'23,k21_b1'8,k21_b8'2,k21_b9'5,hen'3,o44,(Mu hEa'2 hgl ho9'2),by omega,by rw[List.length_append,hgl];rfl,Ml hok hbe⟩ (by omega))
  refine xa 0 [.slice none 0 0,.int .i64 0] 43 fun b45 W45 n45=>?_
  have k21_b1'9:=(u25.blkT ((k21_b1.below hb23).below n24.below) n24.blk (by decide)).below (Za W25)
  have d45_b1:=n45.ne k21_b1'9
  have k21_b9'6:=(u25.blkT ((k21_b9.below hb23).below n24.below) n24.blk (by decide)).below (Za W25)
  have d45_b9:=n45.ne k21_b9'6
  have hB'24:=bln (u25.below (bln hB'9 n24.below) g24) (Za W25)
  have g45:=n45.ge hB'24
  refine xr (.o [] 5) (args:=#[.int .i64 n,.int .i64 (↑i:Int)]) (Ao n i _ (by omega) hn (by have:=(hrm (by omega)).2.1;omega)) fun W46 hb46=>?_
  have hB'25:=bln (bln hB'24 n45.below) hb46
  refine yc (.o [] 6) (args:=#[.pointer (some ⟨bm,0,none⟩),.agg #[.int .i64 (↑((Xr Xp ((Zg l index 4 fuel).es.getD i Xg).2.1).getD 0 0):Int),.int .i64 (↑((Xr Xp ((Zg l index 4 fuel).es.getD i Xg).2.1).getD 1 0):Int),.int .i64 (↑((Xr Xp ((Zg l index 4 fuel).es.getD i Xg).2.1).getD 2 0):Int)],.int .i64 (((Zg l index 4 fuel).es.getD i Xg).2.2),.int .i64 (Vg n i)]) (.t w.heap.size [43]) (Cc B bm p k c l ((Zg l index 4 fuel).es.map Kg) n i (Kg ((Zg l index 4 fuel).es.getD i Xg)) _ (hI.below hB'25) hxi (show Xz Xp ((Zg l index 4 fuel).es.getD i Xg).2.1=0 by omega) (hrm (by omega)).2.2.2.1) ?_
  rintro e W47 hq47
  rcases hq47 with ⟨hbe,p9,c9,a9,d9,rfl,hb47,hf9⟩|⟨hbe,g9,c9,a9,d9,rfl,hb47,ho9⟩
  ·have hs47:=(bln (bln hB'24 n45.below) hb46).size
   refine⟨(SF.of_below _ hb47),?_⟩
   have k45:=(n45.blk.below hb46).below hb47
   refine ysv (.o [7,8,9,11] 12) k45 [.slice a9 ((Hj l ((Zg l index 4 fuel).es.map Kg) n i).1.length) d9,.int .i64 ((Hj l ((Zg l index 4 fuel).es.map Kg) n i).2.1)] (.t w.heap.size [43]) fun W48 u48 k48=>⟨(Zj u48 k45 g45 (by decide)),?_⟩
   refine xb 6 1 k48 ?_
   refine xk 3 (show(((Hj l ((Zg l index 4 fuel).es.map Kg) n i).2.1 != (0:Int)):Bool)=true from bne_iff_ne.2 hbe) ?_
   refine xd 1 (.t w.heap.size [43]) ?_
   have k48'1:=k48.below (Za W48)
   refine xlv (.o [1] 0) k48'1.rp ?_
   have k21_b1'10:=(u48.blk (((k21_b1'9.below n45.below).below hb46).below hb47) (Ne.symm (Ne.symm d45_b1))).below (Za W48)
   have g1:=n1.ge (Below.refl w.heap.size _)
   refine ysv (.o [] 2) k21_b1'10 [.slice a9 ((Hj l ((Zg l index 4 fuel).es.map Kg) n i).1.length) d9,.int .i64 ((Hj l ((Zg l index 4 fuel).es.map Kg) n i).2.1)] (.t w.heap.size [43]) fun W49 u49 k49=>⟨(Zj u49 k21_b1'10 g1 (by decide)),?_⟩
   have hf9'4:=u49.own2 (Zb (u48.own2 (Zd hf9 hs47) k45 (by decide)) (Za W48)) k21_b1'10 (by decide)
   have hB'26:=u49.below (bln (u48.below (bln hB'25 hb47) g45) (Za W48)) g1
   refine xec 9 k49 (.tuple #[.slice none 0 0,.agg #[.slice a9 ((Hj l ((Zg l index 4 fuel).es.map Kg) n i).1.length) d9,.int .i64 ((Hj l ((Zg l index 4 fuel).es.map Kg) n i).2.1)]]) ?_
   rw[Hc hfs hlen hkz,Mn (by omega) hok hbe]
   exact .inl ⟨hbe,none,0,a9,d9,rfl,hB'26,hf9'4⟩
  have hs47:=(bln (bln hB'24 n45.below) hb46).size
  refine⟨(SF.of_below _ hb47),?_⟩
  have k45:=(n45.blk.below hb46).below hb47
  refine ysv (.o [7,8,9,11] 12) k45 [.slice a9 0 d9,.int .i64 0] (.t w.heap.size [43]) fun W50 u50 k50=>⟨(Zj u50 k45 g45 (by decide)),?_⟩
  refine xb 6 1 k50 ?_
  refine xbs 9 1 [.slice (some ⟨g9,0,none⟩) ((Qz l (↑(((Zg l index 4 fuel).es.map Kg).getD i Jp).1.1:Int)).length) c9] 30 fun b51 W51 n51=>?_
  have hB'27:=u50.below (bln hB'25 hb47) g45
  have g51:=n51.ge hB'27
  have ho'5:=u50.own2 (Zb (Zb (Zb (Zb (u25.own2 (Zb (Zb ho hb23) n24.below) n24.blk (by decide)) (Za W25)) n45.below) hb46) hb47) k45 (by decide)
  have r51_ho:=Zu ho'5 n51
  have ho'6:=Zb ho'5 n51.below
  have hB'28:=bln hB'27 n51.below
  refine xbi 0 fun _ _ _ _ zJ zQ zo zx zy zK=>Zp (m:=1) (news:=[.slice (some ⟨g9,0,none⟩) ((Qz l (↑(((Zg l index 4 fuel).es.map Kg).getD i Jp).1.1:Int)).length) c9]) (.slice none 0 0) 1 24 (i+1) (((List.range (i+1)).map (Cb (gs++[(g9,c9)]) (Gl l ((Zg l index 4 fuel).es.map Kg) n (i+1))))) zo Tryz.underlying91 (by kernel_rfl) rfl (by decide) zx ho'6 zy (n51.blk.sl 1 1 (by decide) (by decide)) rfl (by simp[Value.oneCell']) (by unfold maxLen;omega) (by omega) hB'28.size (rfl) (by rw[←La hgl]) fun px52 cx52 W52 o52 hg52 hb52=>?_
  refine zK _ _ ?_
  refine xwm 6 ((↑i:Int)+1) (↑(i+1):Int) ?_
  have hEa'3:=(((((((((hEa.below hb23).below n24.below).only (Ze.of_upd (T:=[79]) u25 n24.blk (by decide)) (by decide)).below (Za W25)).below n45.below).below hb46).below hb47).only (Ze.of_upd (T:=[43]) u50 k45 (by decide)) (by decide)).below n51.below).only (Ze.of_grown (T:=[30]) hg52 ho'6 (by decide)) (by decide)
  have ho9'3:=Zh (Zb (u50.own2 (Zd ho9 hs47) k45 (by decide)) n51.below) hg52 ho'6 (by decide)
  have hB'29:=hB'28.trans hb52
  have k21_b1'11:=((u50.blk (((k21_b1'9.below n45.below).below hb46).below hb47) (Ne.symm (Ne.symm d45_b1))).below n51.below).grown hg52 ho'6 (by decide)
  have k21_b8'3:=((u50.blkT (((((u25.blkT ((k21_b8.below hb23).below n24.below) n24.blk (by decide)).below (Za W25)).below n45.below).below hb46).below hb47) k45 (by decide)).below n51.below).grown hg52 ho'6 (by decide)
  have k21_b9'7:=((u50.blk (((k21_b9'6.below n45.below).below hb46).below hb47) (Ne.symm (Ne.symm d45_b9))).below n51.below).grown hg52 ho'6 (by decide)
  have hen'4:=Zh (Zb (u50.own2 (Zb (Zb (Zb (Zb (u25.own2 (Zb (Zb hen_21 hb23) n24.below) n24.blk (by decide)) (Za W25)) n45.below) hb46) hb47) k45 (by decide)) n51.below) hg52 ho'6 (by decide)
  exact ze 2 (hJ21 _ _ _ ⟨i+1,gs++[(g9,c9)],_,_,rfl,rfl,hB'29,k21_b1'11,k21_b8'3,k21_b9'7,hen'4,o52,(Mu hEa'3 hgl ho9'3),by omega,by rw[List.length_append,hgl];rfl,Ml hok hbe⟩ (by omega))
 have hiE:i=(Zg l index 4 fuel).es.length:=by omega
 have hr9:=ho
 have he9:=hEa
 rw[hiE] at hr9 he9 hok
 have hfo:=Za0 (l:=l) (X:=((Zg l index 4 fuel).es.map Kg)) (n:=n) (by rw[hXl];exact hok) (by rw[hXl];exact hlen)
 rw[hXl] at hfo
 refine xc 11 (args:=#[.pointer (some ⟨bm,0,none⟩),.slice pq i cq,.int .i64 over,.int .i64 fuel]) (Zc3 i B bm p k c l w.heap.size pq cq gs (Gl l ((Zg l index 4 fuel).es.map Kg) n (Zg l index 4 fuel).es.length) over fuel _ (by rw[Yw];exact hiE.symm) (hI.below hB_21) (Zaq hr9 he9) hfo (by rw[Yw];omega) hfu) ?_
 rintro e W53 hq53
 rcases hq53 with ⟨hbe,pr,cr,ar,dr,rfl,hb53,hf9⟩|⟨hbe,pr,cr,ar,dr,rfl,hb53,ho9⟩
 ·have k21_b1'12:=k21_b1.below hb53
  refine xsv 3 k21_b1'12 [.slice ar ((Pz l (Gl l ((Zg l index 4 fuel).es.map Kg) n (Zg l index 4 fuel).es.length) over fuel).1.length) dr,.int .i64 ((Pz l (Gl l ((Zg l index 4 fuel).es.map Kg) n (Zg l index 4 fuel).es.length) over fuel).2.1)] fun W54 u54 k54=>?_
  have g1:=n1.ge (Below.refl w.heap.size _)
  have hf9'5:=u54.own2 (Zd hf9 hB_21.size) k21_b1'12 (by decide)
  have hB'30:=u54.below (bln hB_21 hb53) g1
  refine xec 3 k54 (.tuple #[.slice pr 0 cr,.agg #[.slice ar ((Pz l (Gl l ((Zg l index 4 fuel).es.map Kg) n (Zg l index 4 fuel).es.length) over fuel).1.length) dr,.int .i64 ((Pz l (Gl l ((Zg l index 4 fuel).es.map Kg) n (Zg l index 4 fuel).es.length) over fuel).2.1)]]) ?_
  rw[Hc hfs hlen hkz,Bp (by rw[hXl];exact hok),hXl]
  exact .inl ⟨hbe,pr,cr,ar,dr,rfl,hB'30,hf9'5⟩
 have k21_b1'13:=k21_b1.below hb53
 refine xsv 3 k21_b1'13 [.slice ar 0 dr,.int .i64 0] fun W55 u55 k55=>?_
 have g1:=n1.ge (Below.refl w.heap.size _)
 have ho9'4:=u55.own2 (Zd ho9 hB_21.size) k21_b1'13 (by decide)
 have hB'31:=u55.below (bln hB_21 hb53) g1
 refine xec 3 k55 (.tuple #[.slice pr ((Pz l (Gl l ((Zg l index 4 fuel).es.map Kg) n (Zg l index 4 fuel).es.length) over fuel).2.2.length) cr,.agg #[.slice ar 0 dr,.int .i64 0]]) ?_
 rw[Hc hfs hlen hkz,Bp (by rw[hXl];exact hok),hXl]
 exact .inr ⟨hbe,pr,cr,ar,dr,rfl,hB'31,ho9'4⟩
theorem told_O(bl:List Int)(er:Int)(v:Value)(w:World)(hlen:bl.length≤40)(hg:ErrT w)(hv:Jb w (bl.map some) (some er) v):Calls Tryz.prog 19 #[v] w (Ve (fun w' r=>FltV w' r bl er) w):=by
 have:=Ta (some er) (bl.map some) v w (by rw[List.length_map];omega) hg hv
 rwa [Zc2,On] at this
theorem told_0(w:World)(hg:ErrT w):Calls Tryz.prog 19 #[.nilIface] w (Ve (fun w' r=>FltV w' r [] 0) w):=Ta none [] .nilIface w (by decide) hg rfl
theorem out_len{F:List UInt8}{index tree fuel:Int}:(Xx (Zg F index tree fuel)).1.length≤40:=by
 by_cases h:(Zg F index tree fuel).fs=[]
 ·rw[(Gy h).2.1];exact Nat.zero_le _
 ·rw[(Qs h).2.1];exact Nat.le_trans (scanW_len F index tree fuel _ (Ir (List.length_pos_iff.2 h))) (by decide)
theorem one_len(l:List UInt8)(X:List Plc)(n:Int)(i:Nat):(Hj l X n i).1.length≤40:=by
 unfold Hj Ti
 repeat' split
 all_goals simp
theorem rest_len(l:List UInt8)(L:List (List Int))(over fuel:Int):(Pz l L over fuel).1.length≤40:=by
 unfold Pz
 split
 ·exact out_len
 ·split<;>simp
theorem all_len(l:List UInt8)(X:List Plc)(over n fuel:Int):(allO l X over n fuel).1.length≤40:=by
 unfold allO
 split
 ·exact one_len _ _ _ _
 ·exact rest_len _ _ _ _
theorem O_len(l:List UInt8)(index over n fuel:Int):(Jc l index over n fuel).1.length≤40:=by
 unfold Jc
 repeat' split
 all_goals first|exact out_len|exact all_len _ _ _ _ _|simp
theorem rout_B{O:List Int×Int×List Int}{f:FuncId}{args:Array Value}{w:World}(h:O.2.1≠0)(hc:Calls Tryz.prog f args w (Zco O w)):Calls Tryz.prog f args w (Ve (fun w' r=>∃ p c a c2,r=.tuple #[.slice p 0 c,.agg #[.slice a O.1.length c2,.int .i64 O.2.1]]∧w'.ownsRow w.heap.size 3 1 (.slice a O.1.length c2) O.1.length (O.1.map (Value.int .i64))) w):=hc.mono (by
 rintro e W q
 rcases q with ⟨_,p,c,a,c2,rfl,hb,ho⟩|⟨h2,_⟩
 ·exact⟨_,rfl,hb,p,c,a,c2,rfl,ho⟩
 ·exact absurd h2 h)
theorem rout_G{O:List Int×Int×List Int}{f:FuncId}{args:Array Value}{w:World}(h:O.2.1=0)(hc:Calls Tryz.prog f args w (Zco O w)):Calls Tryz.prog f args w (Ve (fun w' r=>∃ p c a c2,r=.tuple #[.slice p O.2.2.length c,.agg #[.slice a 0 c2,.int .i64 0]]∧w'.ownsRow w.heap.size 3 1 (.slice p O.2.2.length c) O.2.2.length (O.2.2.map (Value.int .i64))) w):=hc.mono (by
 rintro e W q
 rcases q with ⟨h2,_⟩|⟨_,p,c,a,c2,rfl,hb,ho⟩
 ·exact absurd h h2
 ·exact⟨_,rfl,hb,p,c,a,c2,rfl,ho⟩)
theorem Oj(a:Option Addr)(c:Nat)(l:List UInt8)(index over n fuel:Int)(w:World)(h:Bys w (.slice a l.length c) l)(hg:ErrT w) :
 Calls Tryz.prog 4 #[.slice a l.length c,.int .i64 index,.int .i64 over,.int .i64 n,.int .i64 fuel] w (Ret (.bool true) w):=by
 have hcap:=h.cap rfl
 obtain⟨f2,hf2,hf3⟩:∃ x,(if(200:Int)<fuel then(200:Int) else fuel)=x∧x≤200:=⟨_,rfl,by split<;>omega⟩
 refine zin 57 Tryz.func4 ?_
 refine xg 12 [17,18] (decide ((↑l.length:Int)>(12000:Int))) (fun hc1=>?_) (fun hc1=>?_)
 ·have hc1:=of_decide_eq_true hc1
  refine xr 8 (args:=#[]) (Og _) fun W2 hb2=>?_
  exact xe 5 (.bool true) ⟨rfl,hb2⟩
 have hc1:=of_decide_eq_false hc1
 refine xid 5 (n>(1099511627776:Int)) (fun hc3=>?_) (fun hc3=>?_)
 ·refine xr 2 (args:=#[]) (Og _) fun W4 hb4=>?_
  exact xe 5 (.bool true) ⟨rfl,hb4⟩
 refine xq 5 (congrArg (Value.int .i64) (show(if(200:Int)<fuel then(200:Int) else fuel:Int)=f2 from hf2)) ?_
 refine xc 6 (args:=#[.slice a l.length c]) (image_OfR a c l.length ((l.length/256)*256) l _ rfl (by omega) (h.below (Below.refl w.heap.size _)) (by omega) hcap) ?_
 rintro _ W5 ⟨_,rfl,hb5,bi,pi,ci,rfl,_,hI⟩
 refine xc 4 (args:=#[.pointer (some ⟨bi,0,none⟩),.int .i64 index,.int .i64 over,.int .i64 n,.int .i64 f2]) (Aj _ bi pi _ ci (l.take ((l.length/256)*256)) index over n f2 _ hI (by omega) (by omega)) ?_
 rintro e W6 hq6
 rcases hq6 with ⟨hbe,ty9,v9,rfl,hb6,hv9⟩|⟨hbe,p9,c9,rfl,hb6,ho9⟩
 ·have hB:=bln hb5 hb6
  refine xc 10 (args:=#[.slice a l.length c]) (ref_OfM a c l.length (l.length/256) l _ rfl (by omega) (h.below hB) (by omega)) ?_
  rintro _ W7 ⟨_,rfl,hb7,bj,pj,cj,rfl,_,hJ⟩
  refine xc 4 (args:=#[.pointer (some ⟨bj,0,none⟩),.int .i64 index,.int .i64 over,.int .i64 n,.int .i64 f2]) (rout_B hbe (Af _ bj pj _ cj (l.take ((l.length/256)*256)) index over n f2 _ hJ (by omega) (by omega))) ?_
  rintro _ W8 ⟨_,rfl,hb8,p8,c8,a8,d8,rfl,hr9⟩
  have hs8:=(bln hB hb7).size
  refine xa 3 [.slice none 0 0,.int .i64 0] 43 fun b9 W9 n9=>?_
  have hB'1:=bln (bln hB hb7) hb8
  have g9:=n9.ge hB'1
  refine xsv 1 n9.blk [.slice a8 ((Jc (l.take ((l.length/256)*256)) index over n f2).1.length) d8,.int .i64 ((Jc (l.take ((l.length/256)*256)) index over n f2).2.1)] fun W10 u10 k10=>?_
  refine xd 3 .z ?_
  refine xr (.o [0,1] 2) (args:=#[.slice none 0 0,.slice p8 0 c8]) (Ma none p8 0 0 c8 [] _ rfl (.inl ⟨_,_,rfl,rfl,rfl⟩) (.inl ⟨_,_,rfl,rfl,rfl⟩)) fun W11 hb11=>?_
  have k10'1:=(k10.below (Za W10)).below hb11
  refine xlv (.e [3,4] 6) k10'1.rp ?_
  have hB'2:=bln (bln (u10.below (bln hB'1 n9.below) g9) (Za W10)) hb11
  have hv9'1:=(((((hv9.below hb7).below hb8).below n9.below).upd u10 n9.blk (by decide)).below (Za W10)).below hb11
  refine yc (.o [] 5) (args:=#[.iface ty9 (v9)]) .z (told_O (Jc (l.take ((l.length/256)*256)) index over n f2).1 (Jc (l.take ((l.length/256)*256)) index over n f2).2.1 (.iface ty9 v9) _ (O_len _ _ _ _ _) (hg.below hB'2) hv9'1) ?_
  rintro _ W12 ⟨vt12,rfl,hb12,hq⟩
  refine⟨hb12,?_⟩
  have hr9'1:=Zb (Zb (Zb (u10.own2 (Zb (Zd hr9 hs8) n9.below) n9.blk (by decide)) (Za W10)) hb11) hb12
  refine xr (.o [] 7) (args:=#[vt12,.agg #[.slice a8 ((Jc (l.take ((l.length/256)*256)) index over n f2).1.length) d8,.int .i64 ((Jc (l.take ((l.length/256)*256)) index over n f2).2.1)]]) (Tt (Jc (l.take ((l.length/256)*256)) index over n f2).1 (Jc (l.take ((l.length/256)*256)) index over n f2).2.1 vt12 _ _ hq ⟨_,rfl,Zf hr9'1⟩) fun W13 hb13=>?_
  refine xr (.o [8,9] 10) (args:=#[]) (Og _) fun W14 hb14=>?_
  have hB'3:=bln (bln (bln hB'2 hb12) hb13) hb14
  exact xe (.r [11,12] 3) (.bool true) ⟨rfl,hB'3⟩
 have hB:=bln hb5 hb6
 refine xc 10 (args:=#[.slice a l.length c]) (ref_OfM a c l.length (l.length/256) l _ rfl (by omega) (h.below hB) (by omega)) ?_
 rintro _ W15 ⟨_,rfl,hb15,bj,pj,cj,rfl,_,hJ⟩
 refine xc 4 (args:=#[.pointer (some ⟨bj,0,none⟩),.int .i64 index,.int .i64 over,.int .i64 n,.int .i64 f2]) (rout_G hbe (Af _ bj pj _ cj (l.take ((l.length/256)*256)) index over n f2 _ hJ (by omega) (by omega))) ?_
 rintro _ W16 ⟨_,rfl,hb16,p8,c8,a8,d8,rfl,hr9⟩
 have hs16:=(bln hB hb15).size
 refine xa 3 [.slice none 0 0,.int .i64 0] 43 fun b17 W17 n17=>?_
 have hB'4:=bln (bln hB hb15) hb16
 have g17:=n17.ge hB'4
 refine xsv 1 n17.blk [.slice a8 0 d8,.int .i64 0] fun W18 u18 k18=>?_
 refine xd 3 .z ?_
 have ho9'1:=Zb (u18.own2 (Zb (Zb (Zb (Zd ho9 hb5.size) hb15) hb16) n17.below) n17.blk (by decide)) (Za W18)
 have hr9'2:=Zb (u18.own2 (Zb (Zd hr9 hs16) n17.below) n17.blk (by decide)) (Za W18)
 refine xr (.o [0,1] 2) (args:=#[.slice p9 ((Jc (l.take ((l.length/256)*256)) index over n f2).2.2.length) c9,.slice p8 ((Jc (l.take ((l.length/256)*256)) index over n f2).2.2.length) c8]) (Ma p9 p8 (Jc (l.take ((l.length/256)*256)) index over n f2).2.2.length c9 c8 (Jc (l.take ((l.length/256)*256)) index over n f2).2.2 _ rfl (Zf ho9'1) (Zf hr9'2)) fun W19 hb19=>?_
 have k18'1:=(k18.below (Za W18)).below hb19
 refine xlv (.e [3,4] 6) k18'1.rp ?_
 have hB'5:=bln (bln (u18.below (bln hB'4 n17.below) g17) (Za W18)) hb19
 refine yc (.o [] 5) (args:=#[.nilIface]) .z (told_0 _ (hg.below hB'5)) ?_
 rintro _ W20 ⟨vt20,rfl,hb20,hq⟩
 refine⟨hb20,?_⟩
 refine xr (.o [] 7) (args:=#[vt20,.agg #[.slice a8 0 d8,.int .i64 0]]) (Tt [] 0 vt20 _ _ hq ⟨_,rfl,(.inl ⟨_,_,rfl,rfl,rfl⟩)⟩) fun W21 hb21=>?_
 refine xr (.o [8,9] 10) (args:=#[]) (Og _) fun W22 hb22=>?_
 have hB'6:=bln (bln (bln hB'5 hb20) hb21) hb22
 exact xe (.r [11,12] 3) (.bool true) ⟨rfl,hB'6⟩
end Go.Proofs.YthlakkdgcgkcdaaGreatDoor
namespace Go.Proofs.YthlakkdgcgkcdaaGreatDoor
set_option maxHeartbeats 8000000
set_option maxRecDepth 100000
open Go.ChangeShapes Go.WideShapes Go.ChangeAt Go.RowKit Go.Joins
set_option linter.unusedVariables false
theorem bytes_open{H:Type}{enc:TypeId×Value→H}{P:Program}{W:World}{r:Reach}{b0:Nat}{t e:TypeId}{v:Value}{d:DataW H}{p:List MemPlace}(ht:P.underlying t=some (.slice e))(he:P.underlying e=some (.int .u8))(hC:P.cellsOf e=1)
 (hv:Value.okWide P W r b0 t v) (h:DataW.Trod enc P W 0 (fun _=>true) true t v d p):∃ l,Bys W v l:=by
 obtain⟨a,len,cap,rfl⟩:=okWide_slice ht hv
 obtain⟨fuel,hf⟩:=h
 rcases open_ints ht he hC hf with ⟨hcs,_⟩|⟨x,l,c,zs,hcs,_,hl,hm,hz,_,hcell,hwz⟩
 ·simp[Value.cells] at hcs
  obtain⟨rfl,rfl,rfl⟩:=hcs
  exact⟨[],.inl ⟨_,_,rfl,rfl,rfl⟩⟩
 ·simp[Value.cells] at hcs
  obtain⟨rfl,rfl,rfl⟩:=hcs
  have hz':zs.length=cap:=by simpa using hz
  by_cases h0:len=0
  ·subst h0
   exact⟨[],.inl ⟨_,_,rfl,rfl,rfl⟩⟩
  ·obtain⟨b,off,spot⟩:=x
   have hc:=hcell 0 (by omega)
   have hspot:spot=none:=by simpa [Addr.add] using World.cell?_spot hc
   subst hspot
   have hlen:((zs.take len).map fun n=>UInt8.ofNat n.toNat).length=len:=by simp;omega
   refine⟨(zs.take len).map fun n=>UInt8.ofNat n.toNat,.inr ⟨b,off,cap,by rw[hlen],by omega,hm,fun j x hj=>?_⟩⟩
   have hjl:j<len:=by have:=(List.getElem?_eq_some_iff.1 hj).1;simp at this;omega
   have e1:zs[j]? = some zs[j]:=List.getElem?_eq_getElem (by omega)
   have hw:=hwz zs[j] (List.getElem_mem _)
   have hcj:=hcell j (by omega)
   have e2:zs.getD j 0=zs[j]:=by simp[List.getD,e1]
   rw[e2] at hcj
   have hx:x=.int .u8 zs[j]:=by
    rw[List.getElem?_map,List.getElem?_map,List.getElem?_take_of_lt hjl,e1] at hj
    simp only[Option.map_some,Option.some.injEq] at hj
    rw[←hj]
    have hb:0≤zs[j]∧zs[j]≤255:=by simpa [Lit.wf,IntKind.min,IntKind.max,IntKind.signed,IntKind.bits] using hw
    have h3:(zs[j].toNat%256:Nat)=zs[j].toNat:=Nat.mod_eq_of_lt (by omega)
    simp only[bv,UInt8.toNat_ofNat']
    rw[show(2 ^ 8:Nat)=256 from rfl,h3,Int.toNat_of_nonneg hb.1]
   subst hx
   by_cases hj0:j=0
   ·subst hj0;simpa [Addr.add] using hcj
   ·simpa [Addr.add,hj0] using hcj
end Go.Proofs.YthlakkdgcgkcdaaGreatDoor
