/- chart.all: the counts of slots, and what is above them. -/
import Derived.Maps.RangeRun
import Derived.Test.YtekomodnkfhihaaGreatDoorMg6
namespace Go.Proofs.YtekomodnkfhihaaGreatDoor
set_option maxHeartbeats 8000000
open Prod (fst)
open List (range replicate getD)
set_option maxRecDepth 100000
set_option linter.unusedVariables false
section
open Go.RowKit Go.Extern.Stop Go.Stop Go.Extern
section
attribute [local irreducible] wpList wpAnyH Code.wp Oper.wp Go
def Zd6(n:Int)(i:Nat):Int:=if 0<i∧n-960*i<0 then 0 else n-960*i
theorem Zvt(n:Int):Zd6 n 0=n:=by unfold Zd6;rw[V7 M0];omega
theorem rem_in{n:Int}{i m:Nat}(hX:m=bmI n)(hi:i<m):Zd6 n i=n-960*i∧1≤n-960*i∧(if 960<Zd6 n i then 960 else Zd6 n i)=Ur n i∧1≤Ur n i∧Ur n i≤960∧Zd6 n i-Ur n i=Zd6 n (i+1):=by
 unfold bmI bmN at hX;have h1:1≤n-960*i:=M0;have h2:Zd6 n i=n-960*i:=by unfold Zd6;rw[V7 M0]
 have h3:(if 960<Zd6 n i then 960 else Zd6 n i)=Ur n i:=by
  unfold Ur;rw[h2];split<;>split<;>omega
 have h4:1≤Ur n i∧Ur n i≤960:=by unfold Ur;split<;>omega
 refine⟨h2,h1,h3,h4.1,h4.2,?_⟩;rw[h2];unfold Ur Zd6;split<;>split<;>omega
theorem Zm3{n:Int}(h:n≤1099511627776):bmI n≤1200000000:=by unfold bmI bmN;omega
theorem Zcp(Bi b:Nat)(pi:O0)(ni ci:Nat)(l:Bl)(X:V6 Plc)(n:Int)(i:Nat)(w:V1)(hI:ImgR Bi b pi ni ci l w)(hw:1≤Ur n i) :
 C0 129 #[.agg #[V0 ((X.getD i Mi).1.1:Int),V0 ((X.getD i Mi).1.2.1:Int),V0 ((X.getD i Mi).1.2.2:Int),V0 (X.getD i Mi).2.1,V0 (X.getD i Mi).2.2],P0 b,V0 (Ur n i)] w (fun e w' =>
 ((Zgn l X n i).2.1≠0∧∃ ty x,e=.returned (.tuple #[S1,.iface ty x])∧B3 w w'∧Kx w' ((Zgn l X n i).1.map some) (some (Zgn l X n i).2.1) (.iface ty x)) ∨
 ((Zgn l X n i).2.1=0∧∃ g c,e=.returned (.tuple #[.slice (S3 g) (Ut l ((X.getD i Mi).1.1:Int)).length c,.nilIface])∧B3 w w'∧w'.ownsRow w.heap.size 3 1 (.slice (S3 g) (Ut l ((X.getD i Mi).1.1:Int)).length c) (Ut l ((X.getD i Mi).1.1:Int)).length ((Ut l ((X.getD i Mi).1.1:Int)).map V0))):=by
 refine(Zez Bi b pi ni ci l (X.getD i Mi) (Ur n i) w hI).mono ?_
 rintro e W q
 rcases q with ⟨h,ty,x,rfl,hb,hv⟩|⟨h,p,c,rfl,hb,ho⟩
 ·exact .inl ⟨h,ty,x,rfl,hb,hv⟩
 ·obtain⟨h1,h2⟩:=Zua h
  rw[h1] at ho ⊢
  obtain⟨g,rfl,_⟩:=Nr ho (by show 0<(Ut l ((X.getD i Mi).1.1:Int)).length;omega)
  exact .inr ⟨h,g,c,rfl,hb,ho⟩
theorem Zzw{gs:V6 (Nat×Nat)}{l:Bl}{X:V6 Plc}{n:Int}{i g c:Nat}(hg:gs.length=i) :
 (range i).map (Zbx gs (Ba l X n i))++[.slice (S3 g) (Ut l ((X.getD i Mi).1.1:Int)).length c]=(range (i+1)).map (Zbx (gs++[(g,c)]) (Ba l X n (i+1))):=by
 have hl:gs.length=(Ba l X n i).length:=by rw[Kf];exact hg
 rw[B8,A6,List.map_singleton,Zg8]
 congr 1
 ·exact F9 fun k hk=>(Ig hl (by rw[Kf];exact A7.1 hk)).symm
 ·have:=Ie (c:=c) (g:=g) (ch:=Ut l ((X.getD i Mi).1.1:Int)) hl
  rw[Kf] at this
  rw[this]
theorem Zuf{W:V1}{base g c i:Nat}{gs:V6 (Nat×Nat)}{l:Bl}{X:V6 Plc}{n:Int}(h:Ztb W base gs (Ba l X n i))(hg:gs.length=i)(ho:W.ownsRow base 3 1 (.slice (S3 g) (Ut l ((X.getD i Mi).1.1:Int)).length c) (Ut l ((X.getD i Mi).1.1:Int)).length ((Ut l ((X.getD i Mi).1.1:Int)).map V0)):Ztb W base (gs++[(g,c)]) (Ba l X n (i+1)):=by
 have hl:gs.length=(Ba l X n i).length:=by rw[Kf];exact hg
 intro k hk;rw[Kf] at hk;rw[Zg8];by_cases e:k<i
 ·have a0:k<(Ba l X n i).length:=by rw[Kf];exact e
  rw[Ig hl a0,show(Ba l X n i++[Ut l ((X.getD i Mi).1.1:Int)]).getD k []=(Ba l X n i).getD k [] from by simp[getD,G5,a0]];exact h k a0
 ·obtain rfl:k=i:=M0;have h2:=Ie (c:=c) (g:=g) (ch:=Ut l ((X.getD k Mi).1.1:Int)) hl;rw[Kf] at h2;rw[h2,show(Ba l X n k++[Ut l ((X.getD k Mi).1.1:Int)]).getD k []=Ut l ((X.getD k Mi).1.1:Int) from by
   have h3:=Kf l X n k;simp[getD,h3]]
  exact ho
theorem Zwf{W:V1}{base m c:Nat}{p:O0}{gs:V6 (Nat×Nat)}{l:Bl}{X:V6 Plc}{n:Int}(hr:W.ownsRow base 27 1 (.slice p m c) m ((range m).map (Zbx gs (Ba l X n m))))(he:Ztb W base gs (Ba l X n m)):Lists W base (.slice p (Ba l X n m).length c) gs (Ba l X n m):=⟨by rw[Kf];exact hr,fun i hi=>he i hi⟩
theorem Zk9(m:Nat)(B2:Nat)(pl:O0)(cl:Nat)(gs:V6 (Nat×Nat))(L:V6 (V6 Int))(a:O0)(ce:Nat)(E:V6 Ent)(w:V1)(hm:L.length=m)(hL:Lists w B2 (.slice pl L.length cl) gs L)(hF:FormOk L)(hl:L.length≤1200000000)(hE:Sts Ki w (.slice a E.length ce) E)(hv:∀ i,i<E.length→(E.getD i Zn).2.1.length≤1000) :
 C0 130 #[.slice pl m cl,.slice a E.length ce] w (JoinP L.flatten E w):=by
 subst hm;exact Zqn B2 pl cl gs L a ce E w hL hF hl hE hv
theorem Zxi(Bi b:Nat)(pi:O0)(ni ci:Nat)(l:Bl)(px:O0)(cx:Nat)(X:V6 Plc)(over n am:Int)(w:V1)(hI:ImgR Bi b pi ni ci l w)(hX:Sts Zqa w (.slice px X.length cx) X)(hXn:X.length=bmI n)(hn:n≤1099511627776)(hfu:am≤1000000) :
 C0 67 #[P0 b,.slice px X.length cx,V0 over,V0 n,V0 am] w (OutP (Zs4 l X over n am) w):=by
 have f7:=Zm3 hn
 rw[←hXn] at f7
 refine zin 72 Tryz.func67 ?_
 refine xv1 20 3 (show(V0 n:V2)=V0 (Zd6 n 0) from by rw[Zvt]) ?_
 have hB:=U3 w.heap.size w
 refine zl 0 72 (fun zm f0 V=>∃ (i:Nat) (gs:V6 (Nat×Nat)) (p:O0) (c:Nat),f0=[(0,P0 b),(2,V0 over),(3,V0 (Zd6 n i)),(4,V0 am),(12,.slice p i c),(22,.slice px X.length cx),(23,V0 (X.length:Int)),(24,V0 (i:Int))]∧zm=X.length-((i:Int)).toNat∧B3 w V∧V.ownsRow w.heap.size 27 1 (.slice p i c) i ((range i).map (Zbx gs (Ba l X n i)))∧Ztb V w.heap.size gs (Ba l X n i)∧i≤X.length∧gs.length=i∧allK l X n i) ⟨0,[],none,0,rfl,rfl,hB,A8 _ _ _ _,(fun j hj=>absurd hj (by rw[Kf];omega)),A5 _,rfl,(fun j hj=>absurd hj M0)⟩ ?_
 rintro _ _ W1 ⟨i,gs,p,c,rfl,rfl,a0,ho,e1,hi,c6,a6⟩ J1 e8 r1
 have d6:=fun(q:i<X.length)=>rem_in hXn q
 refine xid 6 ((i:Int)<(X.length:Int)) (fun f8=>?_) (fun f8=>?_)
 ·refine xx 6 _ X.length i 5 (Sts.cell hX Znh Mi (k:=i) (i:=0) M0 rfl).1 ?_
  refine xlv 0 (Sts.rp (k:=i) (hX.i a0) Znh Mi M0 Do) ?_
  refine xa 0 [V0 0,V0 0,V0 0,V0 0,V0 0] 130 fun b3 W3 n3=>?_
  have g3:=n3.ge a0
  refine xsv 0 n3.blk [V0 (↑(X.getD i Mi).1.1:Int),V0 (↑(X.getD i Mi).1.2.1:Int),V0 (↑(X.getD i Mi).1.2.2:Int),V0 ((X.getD i Mi).2.1),V0 ((X.getD i Mi).2.2)] fun W4 u4 k4=>?_
  refine xq 5 (congrArg V0 (show(if(960:Int)<(Zd6 n i) then(960:Int) else(Zd6 n i):Int)=(Ur n i) from(d6 M0).2.2.1)) ?_
  refine xlv 5 k4.rp ?_
  have a3:=u4.i (bln a0 n3.i) g3
  refine xc 2 (Zcp Bi b pi ni ci l X n i _ (hI.i a3) (d6 M0).2.2.2.1) ?_
  rintro e W5 f6
  rcases f6 with ⟨c3,f5,vc,rfl,b7,c7⟩|⟨c3,g9,c9,rfl,b7,f1⟩
  ·have c4:=bln a3 b7
   exact xe 29 (.tuple #[S1,.iface f5 (vc)]) (Gq (allO_bad M0 a6 c3) c3 c4 c7)
  have e3:=(u4.i (bln a0 n3.i) g3).size
  refine xbs 21 1 [.slice (S3 g9) ((Ut l (↑(X.getD i Mi).1.1:Int)).length) c9] 27 fun b6 W6 n6=>?_
  have d5:=bln a3 b7
  have d2:=Zb (u4.j (Zb ho n3.i) n3.blk Do) b7
  have a4:=Zb d2 n6.i
  have c1:=bln d5 n6.i
  refine xbi 0 fun _ _ _ _ zJ zQ zo zx zy zK=>Xd (m:=1) (news:=[.slice (S3 g9) ((Ut l (↑(X.getD i Mi).1.1:Int)).length) c9]) (S1) 1 24 (i+1) (((range (i+1)).map (Zbx (gs++[(g9,c9)]) (Ba l X n (i+1))))) zo Tryz.underlying225 K0 rfl Do zx a4 zy (n6.blk.sl 1 1 Do Do) rfl Y4 Y2 M0 c1.size (rfl) (by rw[←Zzw c6]) fun g0 g2 W7 o7 e2 e7=>?_
  refine zK _ _ ?_
  refine xq 6 (congrArg V0 (show IntKind.i64.wrap ((Zd6 n i)-(Ur n i))=(Zd6 n (i+1)) from(show IntKind.i64.wrap ((Zd6 n i)-(Ur n i))=((Zd6 n i)-(Ur n i)) from by first|exact IntWalk.i64_in _ M0|(simp only[IntKind.wrap];omega)).trans ((d6 M0).2.2.2.2.2))) ?_
  refine xwm 5 ((i:Int)+1) (↑(i+1):Int) ?_
  have c2:=((((e1.i n3.i).q (Q1 (T:=[130]) u4 n3.blk Do) Do).i b7).i n6.i).q (Q4 (T:=[27]) e2 a4 Do) Do
  have b5:=Zt (Zb (Zg f1 e3) n6.i) e2 a4 Do
  have d4:=c1.trans e7
  exact ze 2 (e8 _ _ _ ⟨i+1,gs++[(g9,c9)],_,_,rfl,rfl,d4,o7,(Zuf c2 c6 b5),M0,by rw[A1,c6];rfl,Zyw a6 c3⟩ M0)
 obtain rfl:i=X.length:=M0
 refine xc 10 (Gv Bi b pi ni ci l over 5 am _ hfu (hI.i a0)) ?_
 rintro e W8 e4
 rcases e4 with ⟨a9,pe,ce,pb,cb,pf,cf,f3,vw,rfl,b4,c7⟩|⟨a9,pe,ce,pb,nb,cb,dp,lk,pf,cf,rfl,b4,e6⟩
 ·refine xa 3 [S1,S1,V0 0,V0 0,S1] 118 fun b9 W9 n9=>?_
  have c0:=bln a0 b4
  have g9:=n9.ge c0
  refine xsv 0 n9.blk [.slice pe 0 ce,.slice pb 0 cb,V0 0,V0 0,.slice pf 0 cf] fun h0 e0 g7=>?_
  have b1:=(c7.i n9.i).q (Q1 (T:=[118]) e0 n9.blk Do) Do
  have d8:=e0.i (bln c0 n9.i) g9
  exact xe 20 (.tuple #[S1,.iface f3 (vw)]) (Gq ((Zb4 a6).trans (Zy6 a9)) (Zif a9) d8 b1)
 refine xa 3 [S1,S1,V0 0,V0 0,S1] 118 fun g6 f9 a1=>?_
 have a2:=bln a0 b4
 have c8:=a1.ge a2
 refine xsv 0 a1.blk [.slice pe ((Ze l over 5 am).es.length) ce,.slice pb nb cb,V0 dp,V0 lk,.slice pf 0 cf] fun g8 a5 f2=>?_
 refine xb 17 0 f2 ?_
 have d0:=a5.j (Zb (Zb ho b4) a1.i) a1.blk Do
 have b2:=((e1.i b4).i a1.i).q (Q1 (T:=[118]) a5 a1.blk Do) Do
 have b0:=a5.j (Zb (Zg e6 a0.size) a1.i) a1.blk Do
 refine xc 0 (args:=#[.slice p X.length c,.slice pe ((Ze l over 5 am).es.length) ce]) (Zk9 X.length w.heap.size p c gs (Ba l X n X.length) pe ce (Ze l over 5 am).es _ (Kf _ _ _ _) (Zwf d0 b2) (Zut a6 hXn) (by rw[Kf,hXn];exact Zm3 hn) (Zf b0) (He _ _ _ _)) ?_
 rintro _ g1 ⟨pj,cj,rfl,a8,e5⟩
 have d7:=(a5.i (bln a2 a1.i) c8).size
 refine xin 14 ((Pn (Ba l X n X.length).flatten (Ze l over 5 am).es).1) (0:Int) (fun c5=>?_) (fun c5=>?_)
 ·refine xc 5 (args:=#[V0 over,.iface 33 (V0 ((Pn (Ba l X n X.length).flatten (Ze l over 5 am).es).1))]) (Qm over (Pn (Ba l X n X.length).flatten (Ze l over 5 am).es).1 [] _ _ rfl) ?_
  rintro _ g5 ⟨d1,f4,rfl,d9,e9⟩
  have d3:=bln (bln (a5.i (bln a2 a1.i) c8) a8) d9
  exact xe 6 (.tuple #[S1,.iface d1 (f4)]) (Gq ((Zb4 a6).trans (Zsg a9 Y3)) Y3 d3 e9)
 have b8:=bln (a5.i (bln a2 a1.i) c8) a8
 have a7:=Zg e5 d7
 exact xe 10 (.tuple #[.slice pj ((Pn (Ba l X n X.length).flatten (Ze l over 5 am).es).2.length) cj,.nilIface]) (out_ok ((Zb4 a6).trans (Ze9 a9 M0)) rfl b8 a7)
def sl0:Nat×Nat×Nat:=(0,0,0)
theorem Zzd{es:V6 Ent}{i:Nat}(hi:i<es.length):((es.take (i+1)).map Zjk).flatMap Zqa=((es.take i).map Zjk).flatMap Zqa++Zqa (Zjk (es.getD i Zn)):=by
 rw[B5 hi,A6,C7,show es.getD i Zn=es[i] from by simp[getD,hi]];simp only[D7,H0,E7,K9,F4]
theorem Zyn{sl:V6 (Nat×Nat×Nat)}{i:Nat}{at_:Int}(hi:i<sl.length):((sl.take (i+1)).map (Zok at_)).flatMap Zqa=((sl.take i).map (Zok at_)).flatMap Zqa++Zqa (Zok at_ (sl.getD i sl0)):=by
 rw[B5 hi,A6,C7,show sl.getD i sl0=sl[i] from by simp[getD,hi]];simp only[D7,H0,E7,K9,F4]
theorem Zzg{l:Bl}{it over n am:Int}(h:(Ze l it 4 am).fs≠[]):Ah l it over n am=((Kg (Ze l it 4 am)).1,(Kg (Ze l it 4 am)).2,[]):=V8 h
theorem Zxv{l:Bl}{it over n am:Int}(h:(Ze l it 4 am).fs=[])(h2:(Ze l it 4 am).es.length≠bmI n):Ah l it over n am=([it],7,[]):=by unfold Ah;rw[V7 (fun q=>q h),V8 h2]
theorem Zzj{l:Bl}{it over n am:Int}{i:Nat}(h:(Ze l it 4 am).fs=[])(h2:(Ze l it 4 am).es.length=bmI n)(hi:i<(Ze l it 4 am).es.length)(h3:((Ze l it 4 am).es.getD i Zn).1≠(i:Int)):Ah l it over n am=([it],7,[]):=by unfold Ah;rw[V7 (fun q=>q h),V7 (fun q=>q h2),V8 (Zpa hi h3)]
theorem Zhk{l:Bl}{it over n am:Int}(h:(Ze l it 4 am).fs=[])(h2:(Ze l it 4 am).es.length=bmI n)(h3:∀ i,i<(Ze l it 4 am).es.length→((Ze l it 4 am).es.getD i Zn).1=(i:Int)):Ah l it over n am=Zs4 l ((Ze l it 4 am).es.map Zjk) over n am:=by unfold Ah;rw[V7 (fun q=>q h),V7 (fun q=>q h2),V7 (by rw[Ziv h3];decide)]
theorem Zvu{l:Bl}{it over n am:Int}(h:Qr l it≠0):Zcc l it over n am=([it],Qr l it,[]):=V8 h
theorem Zxq{l:Bl}{it over n am:Int}(h:Qr l it=0)(h2:(Wj l it).length≠bmI n):Zcc l it over n am=([it],7,[]):=by unfold Zcc;rw[V7 (fun q=>q h),V8 h2]
theorem Zh2{l:Bl}{it over n am:Int}(h:Qr l it=0)(h2:(Wj l it).length=bmI n):Zcc l it over n am=Zs4 l ((Wj l it).map (Zok it)) over n am:=by unfold Zcc;rw[V7 (fun q=>q h),V7 (fun q=>q h2)]
theorem Zdc(m:Nat)(Bi b:Nat)(pi:O0)(ni ci:Nat)(l:Bl)(px:O0)(cx:Nat)(X:V6 Plc)(over n am:Int)(w:V1)(hm:X.length=m)(hI:ImgR Bi b pi ni ci l w)(hX:Sl w (.slice px m cx) m (X.flatMap Zqa))(hXn:m=bmI n)(hn:n≤1099511627776)(hfu:am≤1000000) :
 C0 67 #[P0 b,.slice px m cx,V0 over,V0 n,V0 am] w (OutP (Zs4 l X over n am) w):=by
 subst hm;exact Zxi Bi b pi ni ci l px cx X over n am w hI hX hXn hn hfu
theorem Tc(B b:Nat)(p:O0)(n c:Nat)(l:Bl)(no:Int)(w:V1)(hI:ImgR B b p n c l w) :
 C0 68 #[P0 b,V0 no] w (fun e w' =>
 (Qr l no≠0∧∃ ty x,e=.returned (.tuple #[S1,.iface ty x])∧B3 w w'∧Kx w' (([no]:V6 Int).map some) (some (Qr l no)) (.iface ty x)) ∨
 (Qr l no=0∧∃ p c,e=.returned (.tuple #[.slice p (Wj l no).length c,.nilIface])∧B3 w w'∧w'.ownsRow w.heap.size 126 3 (.slice p (Wj l no).length c) (Wj l no).length ((Wj l no).flatMap Zya))):=by
 refine(Zkf B b p n c l no w hI).mono ?_
 rintro e W q
 rcases q with ⟨h,b,rfl,hb,hv⟩|⟨h,p,c,rfl,hb,ho⟩
 ·exact .inl ⟨h,_,_,rfl,hb,hv⟩
 ·refine .inr ⟨h,p,c,by rw[(Rr h).2],hb,?_⟩
  rw[(Rr h).2,(Rr h).1];exact ho
theorem Zo7(Bi b:Nat)(pi:O0)(ni ci:Nat)(l:Bl)(it over n am:Int)(w:V1)(hI:ImgR Bi b pi ni ci l w)(hn:n≤1099511627776)(hfu:am≤1000000) :
 C0 24 #[P0 b,V0 it,V0 over,V0 n,V0 am] w (OutP (Ah l it over n am) w):=by
 have h0:=Zm3 hn
 refine zin 76 Tryz.func24 ?_
 refine xc 11 (Gv Bi b pi ni ci l it 4 am _ hfu (hI.i (B4 w))) ?_
 rintro e W1 f5
 rcases f5 with ⟨a9,pe,ce,pb,cb,pf,cf,g0,vw,rfl,b0,e0⟩|⟨a9,pe,ce,pb,nb,cb,dp,lk,pf,cf,rfl,b0,b3⟩
 ·refine xa 3 [S1,S1,V0 0,V0 0,S1] 118 fun b2 W2 n2=>?_
  refine xsv 0 n2.blk [.slice pe 0 ce,.slice pb 0 cb,V0 0,V0 0,.slice pf 0 cf] fun W3 u3 k3=>?_
  have g2:=n2.ge b0
  have c3:=(e0.i n2.i).q (Q1 (T:=[118]) u3 n2.blk Do) Do
  have hB:=u3.i (bln b0 n2.i) g2
  exact xe 20 (.tuple #[S1,.iface g0 (vw)]) (Gq (Zzg a9) (Zif a9) hB c3)
 have g1:=At w.heap.size
 refine xa 3 [S1,S1,V0 0,V0 0,S1] 118 fun b4 W4 n4=>?_
 refine xsv 0 n4.blk [.slice pe ((Ze l it 4 am).es.length) ce,.slice pb nb cb,V0 dp,V0 lk,.slice pf 0 cf] fun W5 u5 k5=>?_
 have g4:=n4.ge b0
 refine xd 15 .z ?_
 have b7:=k5.i (Za W5)
 refine xb (.e [0] 1) 0 b7 ?_
 refine xr (.o [2,3] 4) (Fi n _ hn) fun W6 d1=>?_
 refine xin (.r [5] 2) (↑((Ze l it 4 am).es.length):Int) (↑(bmI n):Int) (fun g3=>?_) (fun g3=>?_)
 ·have f4:(Ze l it 4 am).es.length≠bmI n:=M0
  refine xc 4 (args:=#[V0 it,.iface 33 (V0 7)]) (Qm it 7 [] _ _ rfl) ?_
  rintro _ W8 ⟨g9,v8,rfl,g6,d9⟩
  have hB:=bln (bln (bln (u5.i (bln b0 n4.i) g4) (Za W5)) d1) g6
  exact xe 6 (.tuple #[S1,.iface g9 (v8)]) (Gq (Zxv a9 f4) Do hB d9)
 have a6:(Ze l it 4 am).es.length=bmI n:=M0
 have b9:=b7.i d1
 refine xb 11 0 b9 ?_
 have b5:=Zb (Zb (u5.j (Zb (Zg b3 g1) n4.i) n4.blk Do) (Za W5)) d1
 have hB:=bln (bln (u5.i (bln b0 n4.i) g4) (Za W5)) d1
 refine zl 5 76 (fun zm f8 V=>∃ (i:Nat) (p:O0) (c:Nat),f8=[(0,P0 b),(1,V0 it),(2,V0 over),(3,V0 n),(4,V0 am),(14,.slice p i c),(39,.slice pe ((Ze l it 4 am).es.length) ce),(40,V0 (↑((Ze l it 4 am).es.length):Int)),(41,V0 (i:Int))]∧zm=(Ze l it 4 am).es.length-((i:Int)).toNat∧B3 w V∧Blk V b4 ([.slice pe ((Ze l it 4 am).es.length) ce,.slice pb nb cb,V0 dp,V0 lk,.slice pf 0 cf]) 118∧V.ownsRow w.heap.size 124 3 (.slice pe (Ze l it 4 am).es.length ce) (Ze l it 4 am).es.length ((Ze l it 4 am).es.flatMap Ki)∧V.ownsRow w.heap.size 130 5 (.slice p i c) i ((((Ze l it 4 am).es.take i).map Zjk).flatMap Zqa)∧i≤(Ze l it 4 am).es.length∧(∀ j,j<i→((Ze l it 4 am).es.getD j Zn).1=(j:Int))) ⟨0,none,0,rfl,rfl,hB,b9,b5,A8 _ _ _ _,A5 _,?_⟩ ?_
 ·exact fun j hj=>absurd hj M0
 rintro _ _ W9 ⟨i,p,c,rfl,rfl,a0,b8,b3,ho,hi,d6⟩ J9 f7 r9
 refine xid 6 ((i:Int)<(↑((Ze l it 4 am).es.length):Int)) (fun d3=>?_) (fun d3=>?_)
 ·refine xx 7 _ ((Ze l it 4 am).es.length) i 3 (Sts.cell (f:=Ki) (Zf b3) Qg Zn (k:=i) (i:=0) M0 rfl).1 ?_
  refine xlv 0 (Sts.rp (k:=i) (Zf b3) Qg Zn M0 Do) ?_
  refine xa 0 [V0 0,.string ⟨#[]⟩,V0 0] 124 fun h2 h4 a3=>?_
  have f0:=a3.ge a0
  have a5:=Hg b3 a3
  refine xsv 1 a3.blk [V0 (((Ze l it 4 am).es.getD i Zn).1),.string ⟨(((Ze l it 4 am).es.getD i Zn).2.1).toArray⟩,V0 (((Ze l it 4 am).es.getD i Zn).2.2)] fun i1 c4 d4=>?_
  refine xb 6 0 d4 ?_
  refine xin 4 (((Ze l it 4 am).es.getD i Zn).1) (i:Int) (fun e1=>?_) (fun e1=>?_)
  ·refine xc 4 (args:=#[V0 it,.iface 33 (V0 7)]) (Qm it 7 [] _ _ rfl) ?_
   rintro _ h9 ⟨d2,g8,rfl,d7,d9⟩
   have e4:=bln (c4.i (bln a0 a3.i) f0) d7
   exact xe 11 (.tuple #[S1,.iface d2 (g8)]) (Gq (Zzj a9 a6 (i:=i) M0 Y3) Do e4 d9)
  refine xb 5 1 d4 ?_
  refine xr 0 (args:=#[.string ⟨(((Ze l it 4 am).es.getD i Zn).2.1).toArray⟩]) (Ni ((Ze l it 4 am).es.getD i Zn).2.1 _ (He _ _ _ _ i M0)) fun h7 a2=>?_
  refine xa 3 [V0 0,V0 0,V0 0] 126 fun h1 i0 a1=>?_
  have c2:=bln (c4.i (bln a0 a3.i) f0) a2
  have f9:=a1.ge c2
  refine xsv 0 a1.blk [V0 (↑((Xq Xx ((Ze l it 4 am).es.getD i Zn).2.1).getD 0 0):Int),V0 (↑((Xq Xx ((Ze l it 4 am).es.getD i Zn).2.1).getD 1 0):Int),V0 (↑((Xq Xx ((Ze l it 4 am).es.getD i Zn).2.1).getD 2 0):Int)] fun h6 b6 f6=>?_
  refine xlv 5 f6.rp ?_
  have c1:=b6.A ((d4.i a2).i a1.i) a1.blk Do
  refine xb 1 2 c1 ?_
  refine xbs 2 1 [V0 (↑((Xq Xx ((Ze l it 4 am).es.getD i Zn).2.1).getD 0 0):Int),V0 (↑((Xq Xx ((Ze l it 4 am).es.getD i Zn).2.1).getD 1 0):Int),V0 (↑((Xq Xx ((Ze l it 4 am).es.getD i Zn).2.1).getD 2 0):Int),V0 (((Ze l it 4 am).es.getD i Zn).2.2),V0 (Xn Xx ((Ze l it 4 am).es.getD i Zn).2.1)] 130 fun h3 h5 b1=>?_
  have e7:=b6.i (bln c2 a1.i) f9
  have c8:=b6.j (Zb (Zb (c4.j (Zb ho a3.i) a3.blk Do) a2) a1.i) a1.blk Do
  have d5:=Hg c8 b1
  have a8:=Zb c8 b1.i
  have c5:=bln e7 b1.i
  refine xbi 0 fun _ _ _ _ zJ zQ zo zx zy zK=>Xd (m:=1) (news:=[V0 (↑((Xq Xx ((Ze l it 4 am).es.getD i Zn).2.1).getD 0 0):Int),V0 (↑((Xq Xx ((Ze l it 4 am).es.getD i Zn).2.1).getD 1 0):Int),V0 (↑((Xq Xx ((Ze l it 4 am).es.getD i Zn).2.1).getD 2 0):Int),V0 (((Ze l it 4 am).es.getD i Zn).2.2),V0 (Xn Xx ((Ze l it 4 am).es.getD i Zn).2.1)]) (.agg #[V0 0,V0 0,V0 0,V0 0,V0 0]) 5 40 (i+1) (((((Ze l it 4 am).es.take (i+1)).map Zjk).flatMap Zqa)) zo Tryz.underlying122 K0 rfl Do zx a8 zy (b1.blk.sl 1 1 Do Do) rfl Y4 Y2 M0 c5.size (rfl) (by rw[Zzd M0];rfl) fun f3 g7 i2 f2 c7 d8=>?_
  refine zK _ _ ?_
  refine xwm 5 ((i:Int)+1) (↑(i+1):Int) ?_
  have e6:=c5.trans d8
  have a4:=((b6.A (((c4.A (b8.i a3.i) a3.blk Do).i a2).i a1.i) a1.blk Do).i b1.i).grown c7 a8 Do
  have c6:=Zt (Zb (b6.j (Zb (Zb (c4.O (Zb b3 a3.i) a5) a2) a1.i) a1.blk Do) b1.i) c7 a8 Do
  exact ze 2 (f7 _ _ _ ⟨i+1,_,_,rfl,rfl,e6,a4,c6,f2,M0,fun j hj=>(F0 j i).elim (d6 j) (fun q=>by obtain rfl:j=i:=M0;omega)⟩ M0)
 have d0:i=(Ze l it 4 am).es.length:=M0
 have e2:=Zf ho
 rw[d0,B9 (At _)] at e2
 rw[←d0] at e2
 refine xc 12 (Zdc i Bi b pi ni ci l p c ((Ze l it 4 am).es.map Zjk) over n am _ (by rw[A3];exact d0.symm) (hI.i a0) e2 (d0.trans a6) hn hfu) ?_
 rintro e h8 e3
 rcases e3 with ⟨e8,g5,va,rfl,a7,e0⟩|⟨e8,p9,c9,rfl,a7,f1⟩
 ·have e5:=bln a0 a7
  refine xe 7 (.tuple #[S1,.iface g5 (va)]) ?_
  rw[Zhk a9 a6 (fun j hj=>d6 j M0)]
  exact .inl ⟨e8,_,_,rfl,e5,e0⟩
 have e9:=bln a0 a7
 have c0:=Zg f1 a0.size
 refine xe 7 (.tuple #[.slice p9 ((Zs4 l ((Ze l it 4 am).es.map Zjk) over n am).2.2.length) c9,.nilIface]) ?_
 rw[Zhk a9 a6 (fun j hj=>d6 j M0)]
 exact .inr ⟨e8,_,_,rfl,e9,c0⟩
theorem Zrx(Bi b:Nat)(pi:O0)(ni ci:Nat)(l:Bl)(it over n am:Int)(w:V1)(hI:ImgR Bi b pi ni ci l w)(hn:n≤1099511627776)(hfu:am≤1000000) :
 C0 25 #[P0 b,V0 it,V0 over,V0 n,V0 am] w (OutP (Zcc l it over n am) w):=by
 have e5:=Zm3 hn
 refine zin 55 Tryz.func25 ?_
 refine xc 10 (Tc Bi b pi ni ci l it _ (hI.i (B4 w))) ?_
 rintro e W1 c8
 rcases c8 with ⟨a5,d7,vw,rfl,b1,b4⟩|⟨a5,ps,cs,rfl,b1,a4⟩
 ·exact xe 24 (.tuple #[S1,.iface d7 (vw)]) (Gq (Zvu a5) a5 b1 b4)
 have e3:=At w.heap.size
 refine xr 23 (Fi n _ hn) fun W2 c6=>?_
 refine xin 3 (↑((Wj l it).length):Int) (↑(bmI n):Int) (fun d8=>?_) (fun d8=>?_)
 ·have d3:(Wj l it).length≠bmI n:=M0
  refine xc 4 (args:=#[V0 it,.iface 33 (V0 7)]) (Qm it 7 [] _ _ rfl) ?_
  rintro _ W4 ⟨d2,v4,rfl,d9,d1⟩
  have hB:=bln (bln b1 c6) d9
  exact xe 6 (.tuple #[S1,.iface d2 (v4)]) (Gq (Zxq a5 d3) Do hB d1)
 have a2:(Wj l it).length=bmI n:=M0
 have b0:=Zb (Zg a4 e3) c6
 have hB:=bln b1 c6
 refine zl 16 55 (fun zm d4 V=>∃ (i:Nat) (p:O0) (c:Nat),d4=[(0,P0 b),(1,V0 it),(2,V0 over),(3,V0 n),(4,V0 am),(10,S1),(11,.nilIface),(14,.slice p i c),(34,.slice ps ((Wj l it).length) cs),(35,V0 (↑((Wj l it).length):Int)),(36,V0 (i:Int))]∧zm=(Wj l it).length-((i:Int)).toNat∧B3 w V∧V.ownsRow w.heap.size 126 3 (.slice ps (Wj l it).length cs) (Wj l it).length ((Wj l it).flatMap Zya)∧V.ownsRow w.heap.size 130 5 (.slice p i c) i ((((Wj l it).take i).map (Zok it)).flatMap Zqa)∧i≤(Wj l it).length) ⟨0,none,0,rfl,rfl,hB,b0,A8 _ _ _ _,A5 _⟩ ?_
 rintro _ _ W5 ⟨i,p,c,rfl,rfl,a0,a4,ho,hi⟩ J5 c7 r5
 refine xid 6 ((i:Int)<(↑((Wj l it).length):Int)) (fun e0=>?_) (fun e0=>?_)
 ·refine xx 6 _ ((Wj l it).length) i 3 (Sts.cell (f:=Zya) (Zf a4) Ib sl0 (k:=i) (i:=0) M0 rfl).1 ?_
  refine xlv 0 (Sts.rp (k:=i) (Zf a4) Ib sl0 M0 Do) ?_
  refine xa 0 [V0 0,V0 0,V0 0] 126 fun b7 W7 n7=>?_
  have g7:=n7.ge a0
  have a1:=Hg a4 n7
  refine xsv 0 n7.blk [V0 (↑((Wj l it).getD i sl0).1:Int),V0 (↑((Wj l it).getD i sl0).2.1:Int),V0 (↑((Wj l it).getD i sl0).2.2:Int)] fun W8 u8 k8=>?_
  refine xlv 4 k8.rp ?_
  refine xbs 2 1 [V0 (↑((Wj l it).getD i sl0).1:Int),V0 (↑((Wj l it).getD i sl0).2.1:Int),V0 (↑((Wj l it).getD i sl0).2.2:Int),V0 it,V0 0] 130 fun b9 W9 n9=>?_
  have b5:=u8.i (bln a0 n7.i) g7
  have b6:=u8.j (Zb ho n7.i) n7.blk Do
  have a8:=Zb b6 n9.i
  have a6:=bln b5 n9.i
  refine xbi 0 fun _ _ _ _ zJ zQ zo zx zy zK=>Xd (m:=1) (news:=[V0 (↑((Wj l it).getD i sl0).1:Int),V0 (↑((Wj l it).getD i sl0).2.1:Int),V0 (↑((Wj l it).getD i sl0).2.2:Int),V0 it,V0 0]) (.agg #[V0 0,V0 0,V0 0,V0 0,V0 0]) 5 40 (i+1) (((((Wj l it).take (i+1)).map (Zok it)).flatMap Zqa)) zo Tryz.underlying122 K0 rfl Do zx a8 zy (n9.blk.sl 1 1 Do Do) rfl Y4 Y2 M0 a6.size (rfl) (by rw[Zyn M0];rfl) fun e1 d6 e6 e2 c4 b3=>?_
  refine zK _ _ ?_
  refine xwm 5 ((i:Int)+1) (↑(i+1):Int) ?_
  have c3:=a6.trans b3
  have a7:=Zt (Zb (u8.O (Zb a4 n7.i) a1) n9.i) c4 a8 Do
  exact ze 2 (c7 _ _ _ ⟨i+1,_,_,rfl,rfl,c3,a7,e2,M0⟩ M0)
 have b2:i=(Wj l it).length:=M0
 have c0:=Zf ho
 rw[b2,B9 (At _)] at c0
 rw[←b2] at c0
 refine xc 12 (Zdc i Bi b pi ni ci l p c ((Wj l it).map (Zok it)) over n am _ (by rw[A3];exact b2.symm) (hI.i a0) c0 (b2.trans a2) hn hfu) ?_
 rintro e e4 b8
 rcases b8 with ⟨c5,d0,va,rfl,a3,b4⟩|⟨c5,p9,c9,rfl,a3,d5⟩
 ·have c1:=bln a0 a3
  refine xe 7 (.tuple #[S1,.iface d0 (va)]) ?_
  rw[Zh2 a5 a2]
  exact .inl ⟨c5,_,_,rfl,c1,b4⟩
 have c2:=bln a0 a3
 have a9:=Zg d5 a0.size
 refine xe 7 (.tuple #[.slice p9 ((Zs4 l ((Wj l it).map (Zok it)) over n am).2.2.length) c9,.nilIface]) ?_
 rw[Zh2 a5 a2]
 exact .inr ⟨c5,_,_,rfl,c2,a9⟩
def asP (ak:Int):Int:=if ak=6 then -1 else if ak=7 then -2 else ak
structure RcM(B Bi b bx br:Nat)(pi:Option Addr)(ni ci:Nat)(l:V6 UInt8)(g n:Nat)(cs:V6 Nat)(w:V1):Prop where
 hI:ImgR Bi b pi ni ci l w
 kx:Blk w bx [.pointer (some ⟨b,0,none⟩),.pointer (some ⟨br,0,none⟩)] 143
 kr:Blk w br [.slice (some ⟨g,0,none⟩) n n] 231
 hc:w.ownsRow B 3 1 (.slice (some ⟨g,0,none⟩) n n) n (cs.map nv)
 hn:cs.length=n
 hB:B≤w.heap.size
theorem RcM.move{B Bi b bx br:Nat}{pi:O0}{ni ci:Nat}{l:Bl}{g n:Nat}{cs cs':V6 Nat}{w W:V1}(h:RcM B Bi b bx br pi ni ci l g n cs w)(hb:Below B w W)(hO:Zd [3] w W)(hI:ImgR Bi b pi ni ci l W)(hc:W.ownsRow B 3 1 (.slice (S3 g) n n) n (cs'.map nv))(hn:cs'.length=n):RcM B Bi b bx br pi ni ci l g n cs' W:=⟨hI,h.kx.q hO Do,h.kr.q hO Do,hc,hn,N0 h.hB hb.size⟩
def Bd(B g n:Nat)(o:Cx)(w:V1)(e:V5)(w':V1):Prop :=
 (o.2.2≠0∧∃ ty v,e=.returned (.iface ty v)∧Below B w w'∧Zd [3] w w'∧Kx w' (o.2.1.map some) (some o.2.2) (.iface ty v)) ∨
 (o.2.2=0∧e=.returned .nilIface∧Below B w w'∧Zd [3] w w'∧w'.ownsRow B 3 1 (.slice (S3 g) n n) n (o.1.map nv))
theorem Yh{B g n:Nat}{o:Cx}{c:V6 Nat}{bl:V6 Int}{er:Int}{w W:V1}{ty:V3}{v:V2}(h:o=(c,bl,er))(her:er≠0)(hb:Below B w W)(hO:Zd [3] w W)(hv:Kx W (bl.map some) (some er) (.iface ty v)):Bd B g n o w (.returned (.iface ty v)) W:=by
 subst h;exact .inl ⟨her,ty,v,rfl,hb,hO,hv⟩
theorem Js{B g n:Nat}{o:Cx}{c:V6 Nat}{w W:V1}(h:o.2.2=0)(h1:o.1=c)(hb:Below B w W)(hO:Zd [3] w W)(hc:W.ownsRow B 3 1 (.slice (S3 g) n n) n (c.map nv)):Bd B g n o w (.returned .nilIface) W:=by
 subst h1;exact .inr ⟨h,rfl,hb,hO,hc⟩
def Bz(d:Nat)(B Bi b bx br:Nat)(pi:O0)(ni ci:Nat)(l:Bl)(g n:Nat):Prop:=∀ (cs:V6 Nat) (no ak:Int) (w:V1),RcM B Bi b bx br pi ni ci l g n cs w→zer cs<d→phi cs≤1000000000000→1≤ak→ak≤7 →
 C0 72 #[P0 bx,V0 no,V0 (asP ak)] w (Bd B g n (Xm l d cs (no,ak,0)) w)
def Vc(f:V6 Nat→Rx→Cx)(cs:V6 Nat)(L:V6 Rx)(c:V6 Nat):Prop:=(Hk f cs L).2.2=0∧(Hk f cs L).1=c
theorem Vc.nil(f:V6 Nat→Rx→Cx)(cs:V6 Nat):Vc f cs [] cs:=⟨rfl,rfl⟩
theorem Vc.next{f:V6 Nat→Rx→Cx}{cs c:V6 Nat}{L:V6 Rx}(h:Vc f cs L c){x:Rx}(h2:(f c x).2.2=0):Vc f cs (L++[x]) (f c x).1:=by
 have e:Hk f cs (L++[x])=Hk f (Hk f cs L).1 [x]:=by rw[Py,V7 (fun q=>q h.1)]
 rw[h.2,Jf,V7 (fun q=>q h2)] at e;unfold Vc;rw[e];exact⟨rfl,rfl⟩
theorem Vc.d1{f:V6 Nat→Rx→Cx}{cs c:V6 Nat}{L:V6 Rx}(h:Vc f cs L c){x:Rx}(h2:(f c x).2.2≠0)(r:V6 Rx):Hk f cs (L++x::r)=f c x:=by
 rw[Py,V7 (fun q=>q h.1),h.2,Jf,V8 h2]
theorem Vc.b5{l:Bl}{d:Nat}{cs c:V6 Nat}{L:V6 Rx}(h:Vc (Xm l d) cs L c):c.length=cs.length∧zer c≤zer cs∧phi c≤phi cs+L.length:=by
 have hw:=Sa (Lh l d) L cs;rw[←h.2];exact⟨hw.len,hw.zer,hw.phi⟩
theorem slt_take{L:V6 (Nat×Nat×Nat)}{i:Nat}(hi:i<L.length):(L.take (i+1)).map Lz=(L.take i).map Lz++[Lz (L.getD i (0,0,0))]:=by
 rw[B5 hi,A6,show L.getD i (0,0,0)=L[i] from by simp[getD,hi]];rfl
theorem Ztz{L:V6 (Nat×Nat×Nat)}{i:Nat}(hi:i<L.length):L.map Lz=(L.take i).map Lz++Lz (L.getD i (0,0,0))::(L.drop (i+1)).map Lz:=by
 rw[show L.getD i (0,0,0)=L[i] from by simp[getD,hi]];rw[←D7,←A6,←F8 hi,G9]
theorem Zaf(d:Nat)(B Bi b bx br:Nat)(pi:O0)(ni ci:Nat)(l:Bl)(g n:Nat)(hR:Bz d B Bi b bx br pi ni ci l g n)(cs:V6 Nat)(B0:Nat)(pl:O0)(cl:Nat)(L:V6 (Nat×Nat×Nat))(w:V1)(hM:RcM B Bi b bx br pi ni ci l g n cs w)(hz:zer cs<d)(hph:phi cs≤999999998000)(hs:w.ownsRow B0 126 3 (.slice pl L.length cl) L.length (L.flatMap Zya))(hm2:L.length≤255) :
 C0 205 #[P0 bx,.slice pl L.length cl] w (Bd B g n (Hk (Xm l d) cs (L.map Lz)) w):=by
 have hc:=hM.hc
 have kx:=hM.kx
 have kr:=hM.kr
 have hI:=hM.hI
 have hBw:=hM.hB
 have hn:=hM.hn
 refine zin 22 Tryz.func205 ?_
 have hB:=U3 B w
 refine zl 14 22 (fun zm zkv V=>∃ (i:Nat) (c:V6 Nat),zkv=[(0,P0 bx),(8,.slice pl L.length cl),(9,V0 (L.length:Int)),(10,V0 (i:Int))]∧zm=L.length-((i:Int)).toNat∧Below B w V∧Zd [3] w V∧Blk V bx ([P0 b,P0 br]) 143∧Blk V br ([.slice (S3 g) n n]) 231∧V.ownsRow B0 126 3 (.slice pl L.length cl) L.length (L.flatMap Zya)∧V.ownsRow B 3 1 (.slice (S3 g) n n) n (c.map nv)∧ImgR Bi b pi ni ci l V∧i≤L.length∧Vc (Xm l d) cs ((L.take i).map Lz) c) ⟨0,cs,rfl,rfl,hB,(Zd.refl _ _),kx,kr,hs,hc,hI,A5 _,Vc.nil _ _⟩ ?_
 rintro _ _ W1 ⟨i,c,rfl,rfl,hB_1,hO_1,k1_bx,k1_br,hs,hc,hI,hi,hf⟩ J1 hJ1 r1
 obtain⟨hw1,hw2,hw3⟩:=hf.b5
 rw[A3,D8] at hw3
 have hw4:=K6 i L.length
 refine xid 6 ((i:Int)<(L.length:Int)) (fun hc2=>?_) (fun hc2=>?_)
 ·refine xx 6 _ L.length i 3 (Sts.cell (f:=Zya) (Zf hs) Ib (0,0,0) (k:=i) (i:=0) M0 rfl).1 ?_
  refine xlv 0 (Sts.rp (k:=i) (Zf hs) Ib (0,0,0) M0 Do) ?_
  refine xa 0 [V0 0,V0 0,V0 0] 126 fun b3 W3 n3=>?_
  have g3:=n3.Q hB_1
  have r3_hs:=Hg hs n3
  refine xsv 0 n3.blk [V0 (↑(L.getD i (0,0,0)).1:Int),V0 (↑(L.getD i (0,0,0)).2.1:Int),V0 (↑(L.getD i (0,0,0)).2.2:Int)] fun W4 u4 k4=>?_
  refine xb 6 0 k4 ?_
  have hI'1:=(hI.i n3.i).q (Q1 (T:=[126]) u4 n3.blk Do) Do
  have hc'1:=u4.j (Zb hc n3.i) n3.blk Do
  have hB'1:=u4.i (blB hB_1 hBw n3.i) (N0 hBw g3)
  have hO'1:=(Q3 (hO_1.trans (Q0 n3.i)) u4 g3)
  refine xc 0 (hR c (↑(L.getD i (0,0,0)).1:Int) 7 _ (hM.move hB'1 hO'1 hI'1 hc'1 M0) M0 M0 Do Do) ?_
  rintro e W5 hq5
  rcases hq5 with ⟨hre,tyr,vr,rfl,hb5,hO5,hv9⟩|⟨hre,rfl,hb5,hO5,hc⟩
  ·have hB'2:=hB'1.trans hb5
   have hO'2:=hO'1.trans hO5
   refine xe 22 (.iface tyr (vr)) ?_
   have e9:=hf.d1 (x:=Lz (L.getD i (0,0,0))) hre ((L.drop (i+1)).map Lz)
   rw[←Ztz M0] at e9
   exact Yh (c:=(Xm l d c (Lz (L.getD i (0,0,0)))).1) e9 hre hB'2 hO'2 hv9
  refine xwm 14 ((i:Int)+1) (↑(i+1):Int) ?_
  have hB'3:=hB'1.trans hb5
  have hO'3:=hO'1.trans hO5
  have k1_bx'1:=(u4.A (k1_bx.i n3.i) n3.blk Do).q hO5 Do
  have k1_br'1:=(u4.A (k1_br.i n3.i) n3.blk Do).q hO5 Do
  have hs'1:=Zi (u4.O (Zb hs n3.i) r3_hs) hO5 Do
  have hI'2:=hI'1.q hO5 Do
  exact ze 2 (hJ1 _ _ _ ⟨i+1,_,rfl,rfl,hB'3,hO'3,k1_bx'1,k1_br'1,hs'1,hc,hI'2,M0,(by have q:=hf.next (x:=Lz (L.getD i (0,0,0))) hre;rwa [←slt_take M0] at q)⟩ M0)
 refine xe 11 .nilIface ?_
 obtain rfl:i=L.length:=M0
 rw[L4] at hf
 exact Js hf.1 hf.2 hB_1 hO_1 hc
theorem asP_id{t:Int}(h5:t≤5):asP t=t:=by unfold asP;rw[V7 M0,V7 M0]
theorem Bz.node{d B Bi b bx br:Nat}{pi:O0}{ni ci:Nat}{l:Bl}{g n:Nat}(hR:Bz d B Bi b bx br pi ni ci l g n){cs:V6 Nat}{no t:Int}{w:V1}(hM:RcM B Bi b bx br pi ni ci l g n cs w)(hz:zer cs<d)(hph:phi cs≤1000000000000)(h1:1≤t)(h5:t≤5) :
 C0 72 #[P0 bx,V0 no,V0 t] w (Bd B g n (Xm l d cs (no,t,0)) w):=by
 have:=hR cs no t w hM hz hph h1 M0
 rwa [asP_id h5] at this
def Dt(l:Bl)(d:Nat)(cs:V6 Nat)(no t:Int)(dx:Bool)(v:Bl):Cx:=if Bm t dx then(cs,[],0) else Xm l d cs (Zct no t dx v)
theorem Zyj{l:Bl}{d:Nat}{cs:V6 Nat}{no t:Int}{dx:Bool}{v:Bl}(h:dx=true)(h1:t≠1)(h4:t≠4):Dt l d cs no t dx v=(cs,[],0):=V8 ⟨h,h1,h4⟩
theorem Zhp{l:Bl}{d:Nat}{cs:V6 Nat}{no t:Int}{dx:Bool}{v:Bl}(h:dx=true)(h4:t=4)(he:Xn Xx v=0):Dt l d cs no t dx v=Xm l d cs ((((Xq Xx v).getD 0 0):Nat),7,0):=by
 unfold Dt;rw[V7 (fun q=>q.2.2 h4)];unfold Zct;rw[V8 ⟨h,h4⟩,V7 (fun q=>q he)]
theorem Sm{l:Bl}{d:Nat}{cs:V6 Nat}{no t:Int}{dx:Bool}{v:Bl}(hd:0<d)(h:dx=true)(h4:t=4)(he:Xn Xx v≠0):Dt l d cs no t dx v=(cs,[no],Xn Xx v):=by
 obtain⟨d,rfl⟩:∃ d',d=d'+1:=⟨d-1,M0⟩;unfold Dt;rw[V7 (fun q=>q.2.2 h4)];unfold Zct;rw[V8 ⟨h,h4⟩,V8 he];exact V8 he
theorem Fo{l:Bl}{d:Nat}{cs:V6 Nat}{no t:Int}{dx:Bool}{v:Bl}(h:dx=true→t=1)(he:Qi v=0):Dt l d cs no t dx v=Xm l d cs ((Ga v:Nat),(if dx then 2 else t),0):=by
 unfold Dt;rw[V7 (fun q=>q.2.1 (h q.1))];unfold Zct;rw[V7 (fun q=>by have:=h q.1;omega),V7 (fun q=>q he)]
theorem Rn{l:Bl}{d:Nat}{cs:V6 Nat}{no t:Int}{dx:Bool}{v:Bl}(hd:0<d)(h:dx=true→t=1)(he:Qi v≠0):Dt l d cs no t dx v=(cs,[no],Qi v):=by
 obtain⟨d,rfl⟩:∃ d',d=d'+1:=⟨d-1,M0⟩;unfold Dt;rw[V7 (fun q=>q.2.1 (h q.1))];unfold Zct;rw[V7 (fun q=>by have:=h q.1;omega),V8 he];exact V8 he
theorem Zx9(d:Nat)(B Bi b bx br:Nat)(pi:O0)(ni ci:Nat)(l:Bl)(g n:Nat)(hR:Bz d B Bi b bx br pi ni ci l g n)(cs:V6 Nat)(no t:Int)(dx:Bool)(kp vp:O0)(kn kc vn vc:Nat)(v:Bl)(w:V1)(hM:RcM B Bi b bx br pi ni ci l g n cs w)(hz:zer cs<d)(hph:phi cs≤999999999000)(ht1:1≤t)(ht5:t≤5)(hv:v.length≤1000) :
 C0 207 #[P0 bx,V0 no,.agg #[V0 t,.bool dx,.slice kp kn kc,.slice vp vn vc],.string ⟨v.toArray⟩] w (Bd B g n (Dt l d cs no t dx v) w):=by
 have hc:=hM.hc
 have hI:=hM.hI
 have a0:=hM.hB
 have hn:=hM.hn
 refine zin 59 Tryz.func207 ?_
 refine xa 2 [V0 t,.bool dx,.slice kp kn kc,.slice vp vn vc] 191 fun b1 W1 n1=>?_
 refine xb 12 0 n1.blk ?_
 refine xb 18 1 n1.blk ?_
 refine xg 1 [18,19] dx (fun b6=>?_) (fun b6=>?_)
 ·refine xb 1 0 n1.blk ?_
  refine xie 5 t (4:Int) (fun e8=>?_) (fun e8=>?_)
  ·refine xr 9 (Ni v _ hv) fun W4 a7=>?_
   refine xa 3 [V0 0,V0 0,V0 0] 126 fun b5 W5 n5=>?_
   refine xsv 0 n5.blk [V0 (↑((Xq Xx v).getD 0 0):Int),V0 (↑((Xq Xx v).getD 1 0):Int),V0 (↑((Xq Xx v).getD 2 0):Int)] fun W6 u6 k6=>?_
   have g5:=n5.Q (blB (blB (U3 B w) a0 n1.i) a0 a7)
   refine xb 5 0 k6 ?_
   refine xin 22 (Xn Xx v) (0:Int) (fun e6=>?_) (fun e6=>?_)
   ·refine xc 5 (args:=#[V0 no,.iface 33 (V0 (Xn Xx v))]) (Qm no (Xn Xx v) [] _ _ rfl) ?_
    rintro _ W8 ⟨f2,v8,rfl,e5,a4⟩
    have hB:=blB (u6.i (blB (blB (blB (U3 B w) a0 n1.i) a0 a7) a0 n5.i) (N0 a0 g5)) a0 e5
    have hO:=(Q3 (((show Zd [3] w _ from(Q0 n1.i)).trans (Q0 a7)).trans (Q0 n5.i)) u6 g5).trans (Q0 e5)
    refine xe 5 (.iface f2 (v8)) ?_
    first|exact Yh (Sm M0 Y3 M0 Y3) Y3 hB hO a4|exact Yh (Rn M0 (fun q=>by first|omega|exact absurd (q.symm.trans (show dx=false by assumption)) Do) Y3) Y3 hB hO a4
   have e1:=(((hI.i n1.i).i a7).i n5.i).q (Q1 (T:=[126]) u6 n5.blk Do) Do
   have e2:=u6.j (Zb (Zb (Zb hc n1.i) a7) n5.i) n5.blk Do
   have hB:=u6.i (blB (blB (blB (U3 B w) a0 n1.i) a0 a7) a0 n5.i) (N0 a0 g5)
   have hO:=(Q3 (((show Zd [3] w _ from(Q0 n1.i)).trans (Q0 a7)).trans (Q0 n5.i)) u6 g5)
   refine xc 7 (hR cs (↑((Xq Xx v).getD 0 0):Int) 7 _ (hM.move hB hO e1 e2 M0) hz M0 Do Do) ?_
   rintro e W9 e7
   rcases e7 with ⟨a3,b2,vr,rfl,d4,c0,b3⟩|⟨a3,rfl,d4,c0,hc⟩
   ·have d0:=hB.trans d4
    have e4:=hO.trans c0
    refine xe 4 (.iface b2 (vr)) ?_
    have e9:=(show Dt l d cs no t dx v=_ from Zhp Y3 M0 M0)
    exact Yh (c:=(Dt l d cs no t dx v).1) (bl:=(Dt l d cs no t dx v).2.1) (er:=(Dt l d cs no t dx v).2.2) rfl (by rw[e9];exact a3) d0 e4 (by rw[e9];exact b3)
   have b8:=hB.trans d4
   have b7:=hO.trans c0
   refine xe 4 .nilIface ?_
   have e9:=(show Dt l d cs no t dx v=_ from Zhp Y3 M0 M0)
   exact Js (by rw[e9];exact a3) (by rw[e9]) b8 b7 hc
  refine xb 6 1 n1.blk ?_
  refine xgk 1 [26,27] (show(dx:Bool)=true from b6) ?_
  refine xb 1 0 n1.blk ?_
  refine xie 5 t (1:Int) (fun c9=>?_) (fun c9=>?_)
  ·refine xr 15 (Ua v _ hv) fun f6 a2=>?_
   refine xin 19 (Qi v) (0:Int) (fun c8=>?_) (fun c8=>?_)
   ·refine xc 5 (args:=#[V0 no,.iface 33 (V0 (Qi v))]) (Qm no (Qi v) [] _ _ rfl) ?_
    rintro _ f7 ⟨b9,f0,rfl,b4,a4⟩
    have hB:=blB (blB (blB (U3 B w) a0 n1.i) a0 a2) a0 b4
    have hO:=((show Zd [3] w _ from(Q0 n1.i)).trans (Q0 a2)).trans (Q0 b4)
    refine xe 5 (.iface b9 (f0)) ?_
    first|exact Yh (Sm M0 Y3 M0 Y3) Y3 hB hO a4|exact Yh (Rn M0 (fun q=>by first|omega|exact absurd (q.symm.trans (show dx=false by assumption)) Do) Y3) Y3 hB hO a4
   have d9:=(hI.i n1.i).i a2
   have e0:=Zb (Zb hc n1.i) a2
   have hB:=blB (blB (U3 B w) a0 n1.i) a0 a2
   have hO:=(show Zd [3] w _ from(Q0 n1.i)).trans (Q0 a2)
   refine xc 7 (hR.node (cs:=cs) (no:=(↑(Ga v):Int)) (t:=2) (hM.move hB hO d9 e0 M0) hz M0 M0 M0) ?_
   rintro e f4 c7
   rcases c7 with ⟨a3,b2,vr,rfl,a6,a8,b3⟩|⟨a3,rfl,a6,a8,hc⟩
   ·have d8:=hB.trans a6
    have d2:=hO.trans a8
    refine xe 4 (.iface b2 (vr)) ?_
    have e9:=(show Dt l d cs no t dx v=_ from(Fo (fun _=>by omega) M0).trans (by rw[V8 Y3]))
    exact Yh (c:=(Dt l d cs no t dx v).1) (bl:=(Dt l d cs no t dx v).2.1) (er:=(Dt l d cs no t dx v).2.2) rfl (by rw[e9];exact a3) d8 d2 (by rw[e9];exact b3)
   have d6:=hB.trans a6
   have d3:=hO.trans a8
   refine xe 4 .nilIface ?_
   have e9:=(show Dt l d cs no t dx v=_ from(Fo (fun _=>by omega) M0).trans (by rw[V8 Y3]))
   exact Js (by rw[e9];exact a3) (by rw[e9]) d6 d3 hc
  refine xb 5 1 n1.blk ?_
  refine xk 4 (show(!dx:Bool)=false from by rw[b6];rfl) ?_
  have e3:=Zb hc n1.i
  have hB:=blB (U3 B w) a0 n1.i
  have hO:=(show Zd [3] w _ from(Q0 n1.i))
  refine xe 21 .nilIface ?_
  have e9:Dt l d cs no t dx v=(cs,[],0):=Zyj Y3 M0 M0
  exact Js (by rw[e9]) (by rw[e9]) hB hO e3
 refine xb 14 1 n1.blk ?_
 refine xgk 1 [26,27] (show(dx:Bool)=false from b6) ?_
 refine xb 13 1 n1.blk ?_
 refine xk 4 (show(!dx:Bool)=true from by rw[b6];rfl) ?_
 refine xr 11 (Ua v _ hv) fun f3 a1=>?_
 refine xin 19 (Qi v) (0:Int) (fun c3=>?_) (fun c3=>?_)
 ·refine xc 5 (args:=#[V0 no,.iface 33 (V0 (Qi v))]) (Qm no (Qi v) [] _ _ rfl) ?_
  rintro _ f8 ⟨c6,f1,rfl,b0,a4⟩
  have hB:=blB (blB (blB (U3 B w) a0 n1.i) a0 a1) a0 b0
  have hO:=((show Zd [3] w _ from(Q0 n1.i)).trans (Q0 a1)).trans (Q0 b0)
  refine xe 5 (.iface c6 (f1)) ?_
  first|exact Yh (Sm M0 Y3 M0 Y3) Y3 hB hO a4|exact Yh (Rn M0 (fun q=>by first|omega|exact absurd (q.symm.trans (show dx=false by assumption)) Do) Y3) Y3 hB hO a4
 have d1:=(hI.i n1.i).i a1
 have c4:=Zb (Zb hc n1.i) a1
 have hB:=blB (blB (U3 B w) a0 n1.i) a0 a1
 have hO:=(show Zd [3] w _ from(Q0 n1.i)).trans (Q0 a1)
 refine xc 7 (hR.node (cs:=cs) (no:=(↑(Ga v):Int)) (t:=t) (hM.move hB hO d1 c4 M0) hz M0 M0 M0) ?_
 rintro e f5 c5
 rcases c5 with ⟨a3,b2,vr,rfl,a9,a5,b3⟩|⟨a3,rfl,a9,a5,hc⟩
 ·have d7:=hB.trans a9
  have c1:=hO.trans a5
  refine xe 4 (.iface b2 (vr)) ?_
  have e9:=(show Dt l d cs no t dx v=_ from(Fo (fun q=>absurd (q.symm.trans (show dx=false by assumption)) Do) M0).trans (by rw[V7 (fun q=>absurd (q.symm.trans (show dx=false by assumption)) Do)]))
  exact Yh (c:=(Dt l d cs no t dx v).1) (bl:=(Dt l d cs no t dx v).2.1) (er:=(Dt l d cs no t dx v).2.2) rfl (by rw[e9];exact a3) d7 c1 (by rw[e9];exact b3)
 have d5:=hB.trans a9
 have c2:=hO.trans a5
 refine xe 4 .nilIface ?_
 have e9:=(show Dt l d cs no t dx v=_ from(Fo (fun q=>absurd (q.symm.trans (show dx=false by assumption)) Do) M0).trans (by rw[V7 (fun q=>absurd (q.symm.trans (show dx=false by assumption)) Do)]))
 exact Js (by rw[e9];exact a3) (by rw[e9]) d5 c2 hc
def Zgq(l:Bl)(d:Nat)(cs:V6 Nat)(no ak:Int):Cx:=if Zb8 l no ak≠0 then(cs,[no],Zb8 l no ak) else Hk (Xm l d) cs (Zcn l no ak)
theorem Zer{l:Bl}{d:Nat}{cs:V6 Nat}{no ak e:Int}(he:Zb8 l no ak=e)(h:e≠0):Zgq l d cs no ak=(cs,[no],e):=by subst he;exact V8 h
theorem Zbs{l:Bl}{d:Nat}{cs:V6 Nat}{no ak:Int}(h:Zb8 l no ak=0):Zgq l d cs no ak=Hk (Xm l d) cs (Zcn l no ak):=V7 (fun q=>q h)
theorem Zy3(l:Bl)(no:Int):Zb8 l no 6=Qr l no:=V8 rfl
theorem hasE_7(l:Bl)(no:Int):Zb8 l no 7=Ye l no:=by unfold Zb8;rw[V7 Do,V8 rfl]
theorem Zth{l:Bl}{no t:Int}(h5:t≤5):Zb8 l no t=Xy l no t:=by unfold Zb8;rw[V7 M0,V7 M0]
theorem hasL_6(l:Bl)(no:Int):Zcn l no 6=(Wj l no).map Lz:=V8 rfl
theorem hasL_7(l:Bl)(no:Int):Zcn l no 7=[]:=by unfold Zcn;rw[V7 Do,V8 rfl]
theorem hasL_n{l:Bl}{no t:Int}(h5:t≤5):Zcn l no t=nodX l no:=by unfold Zcn;rw[V7 M0,V7 M0]
theorem Zar(d:Nat)(B Bi b bx br:Nat)(pi:O0)(ni ci:Nat)(l:Bl)(g n:Nat)(hR:Bz d B Bi b bx br pi ni ci l g n)(cs:V6 Nat)(w:V1)(hM:RcM B Bi b bx br pi ni ci l g n cs w)(hz:zer cs<d)(hph:phi cs≤999999998000):C0 205 #[P0 bx,S1] w (fun e w'=>e=.returned .nilIface∧Below B w w'∧Zd [3] w w'∧w'.ownsRow B 3 1 (.slice (S3 g) n n) n (cs.map nv)):=by
 refine(Zaf d B Bi b bx br pi ni ci l g n hR cs 0 none 0 [] w hM hz hph (A8 _ _ _ _) Do).mono ?_;rintro e W q;rcases q with ⟨h,_⟩|⟨_,h⟩
 ·exact absurd rfl h
 ·exact h
def Ae(l:Bl)(no:Int)(i:Nat):V6 Rx:=if Bm (Qt (inB l no)) (Yg (inB l no)) then [] else((Um l no).take i).map (Zct no (Qt (inB l no)) (Yg (inB l no)))
theorem Zrn(l:Bl)(no:Int):Ae l no 0=[]:=by unfold Ae;split<;>simp
theorem Zv1(l:Bl)(no:Int):Ae l no (Um l no).length=nodX l no:=by unfold Ae nodX;rw[L4]
theorem Zp4{l:Bl}{no:Int}{d i:Nat}{cs c:V6 Nat}(hi:i<(Um l no).length)(h:Vc (Xm l d) cs (Ae l no i) c)(h2:(Dt l d c no (Qt (inB l no)) (Yg (inB l no)) ((Um l no).getD i [])).2.2=0) :
 Vc (Xm l d) cs (Ae l no (i+1)) (Dt l d c no (Qt (inB l no)) (Yg (inB l no)) ((Um l no).getD i [])).1:=by
 unfold Ae at h ⊢
 unfold Dt at h2 ⊢
 by_cases hd:Bm (Qt (inB l no)) (Yg (inB l no))
 ·rw[V8 hd] at h h2 ⊢
  rw[V8 hd]
  exact h
 ·rw[V7 hd] at h h2 ⊢
  rw[V7 hd]
  rw[B5 hi,A6,D7,H0]
  rw[show(Um l no).getD i []=(Um l no)[i] from by simp[getD,hi]] at h2 ⊢
  exact h.next h2
theorem Zx1{l:Bl}{no:Int}{d i:Nat}{cs c:V6 Nat}(hi:i<(Um l no).length)(h:Vc (Xm l d) cs (Ae l no i) c)(h2:(Dt l d c no (Qt (inB l no)) (Yg (inB l no)) ((Um l no).getD i [])).2.2≠0) :
 Hk (Xm l d) cs (nodX l no)=Dt l d c no (Qt (inB l no)) (Yg (inB l no)) ((Um l no).getD i []):=by
 unfold Ae at h
 unfold Dt at h2 ⊢
 by_cases hd:Bm (Qt (inB l no)) (Yg (inB l no))
 ·rw[V8 hd] at h2;exact absurd rfl h2
 ·rw[V7 hd] at h h2 ⊢
  rw[show(Um l no).getD i []=(Um l no)[i] from by simp[getD,hi]] at h2 ⊢
  unfold nodX
  rw[V7 hd]
  have e:Um l no=(Um l no).take i++(Um l no)[i]::(Um l no).drop (i+1):=by rw[←F8 hi,G9]
  conv=>lhs;rw[e]
  rw[A6,D7]
  exact h.d1 h2 _
theorem Zf5(l:Bl)(no:Int):(Um l no).length=Xa (inB l no):=by unfold Um;exact Cj _ _
theorem Zw5(l:Bl)(no:Int)(i:Nat):(Ae l no i).length≤i:=by
 unfold Ae;split
 ·exact A5 _
 ·rw[A3,D8];exact K6 _ _
theorem nodT_is{l:Bl}{no t:Int}(h:Xy l no t=0)(h1:1≤t):Qt (inB l no)=t:=by
 have h2:=(Sc h).2;have h3:=El h2;unfold Ku at h2;rw[V8 h3] at h2;split at h2
 ·rename_i h4;omega
 ·omega
theorem Zzp(bb:Nat)(w:V1)(k:Blk w bb [.nilIface,.nilIface] 39) :
 C0 126 #[.slice (S3 bb) 2 2] w (Ret (.nilIface) w):=by
 refine zin 15 Tryz.func126 ?_
 refine xu 14 2 ?_
 refine xb 14 0 k ?_
 refine xb 32 1 k ?_
 exact xe 36 .nilIface ⟨rfl,(B4 w)⟩
theorem Zt0(bb:Nat)(ty:V3)(x:V2)(w:V1)(k:Blk w bb [.nilIface,.iface ty (x)] 39) :
 C0 126 #[.slice (S3 bb) 2 2] w (Ret (.iface ty (x)) w):=by
 refine zin 15 Tryz.func126 ?_
 refine xu 14 2 ?_
 refine xb 14 0 k ?_
 refine xb 32 1 k ?_
 exact xe 22 (.iface ty (x)) ⟨rfl,(B4 w)⟩
theorem Zw9(bb:Nat)(ty:V3)(x:V2)(w:V1)(k:Blk w bb [.iface ty (x),.nilIface] 39) :
 C0 126 #[.slice (S3 bb) 2 2] w (Ret (.iface ty (x)) w):=by
 refine zin 15 Tryz.func126 ?_
 refine xu 14 2 ?_
 refine xb 14 0 k ?_
 exact xe 22 (.iface ty (x)) ⟨rfl,(B4 w)⟩
theorem Zqh(d:Nat)(B Bi b bx br:Nat)(pi:O0)(ni ci:Nat)(l:Bl)(g n:Nat)(hR:Bz d B Bi b bx br pi ni ci l g n)(cs:V6 Nat)(no:Int)(w:V1)(hM:RcM B Bi b bx br pi ni ci l g n cs w)(hz:zer cs<d)(hph:phi cs≤999999998000) :
 C0 134 #[P0 bx,V0 no,V0 (-1)] w (Bd B g n (Zgq l d cs no 6) w):=by
 have hc:=hM.hc
 have kx:=hM.kx
 have hI:=hM.hI
 have a1:=hM.hB
 have hn:=hM.hn
 refine zin 75 Tryz.func134 ?_
 refine xb 24 0 kx ?_
 refine xc 1 (Tc Bi b pi ni ci l no _ hI) ?_
 rintro e W1 d2
 rcases d2 with ⟨a4,d0,vx,rfl,a0,d4⟩|⟨a4,pl,cl,rfl,a0,hs⟩
 ·have c4:=hI.i a0
  have c5:=Zb hc a0
  have hB:=blB (U3 B w) a1 a0
  have hO:=(show Zd [3] w _ from(Q0 a0))
  refine xc 12 (Zar d B Bi b bx br pi ni ci l g n hR cs _ (hM.move hB hO c4 c5 M0) hz hph) ?_
  rintro _ W2 ⟨rfl,d5,d1,hc⟩
  refine xbs 0 2 [.iface d0 (vx),.nilIface] 39 fun b3 W3 n3=>?_
  have b0:=hB.trans d5
  refine xr 0 (args:=#[.slice (S3 b3) 2 2]) (Zw9 b3 _ _ _ n3.blk) fun W4 b7=>?_
  have a3:=((d4.q d1 Do).i n3.i).i b7
  have a6:=blB (blB b0 a1 n3.i) a1 b7
  have c8:=((hO.trans d1).trans (Q0 n3.i)).trans (Q0 b7)
  exact xe 6 (.iface d0 (vx)) (Yh (Zer (Zy3 l no) a4) a4 a6 c8 a3)
 have d7:=At w.heap.size
 have c2:=hI.i a0
 have c3:=Zb hc a0
 have a8:=Zg hs d7
 have hB:=blB (U3 B w) a1 a0
 have hO:=(show Zd [3] w _ from(Q0 a0))
 refine xc 12 (args:=#[P0 bx,.slice pl ((Wj l no).length) cl]) (Zaf d B Bi b bx br pi ni ci l g n hR cs _ pl cl (Wj l no) _ (hM.move hB hO c2 c3 M0) hz hph a8 (Zm8 l no)) ?_
 rintro e W5 d6
 rcases d6 with ⟨a9,c9,vr,rfl,b4,c7,d3⟩|⟨a9,rfl,b4,c7,hc⟩
 ·refine xbs 0 2 [.nilIface,.iface c9 (vr)] 39 fun b6 W6 n6=>?_
  have c1:=hB.trans b4
  refine xr 0 (args:=#[.slice (S3 b6) 2 2]) (Zt0 b6 _ _ _ n6.blk) fun W7 a7=>?_
  have a2:=(d3.i n6.i).i a7
  have b9:=blB (blB c1 a1 n6.i) a1 a7
  have a5:=((hO.trans c7).trans (Q0 n6.i)).trans (Q0 a7)
  refine xe 6 (.iface c9 (vr)) ?_
  have e9:Zgq l d cs no 6=Hk (Xm l d) cs ((Wj l no).map Lz):=by rw[Zbs ((Zy3 l no).trans a4),hasL_6]
  exact Yh (c:=(Zgq l d cs no 6).1) (bl:=(Zgq l d cs no 6).2.1) (er:=(Zgq l d cs no 6).2.2) rfl (by rw[e9];exact a9) b9 a5 (by rw[e9];exact a2)
 refine xbs 0 2 [.nilIface,.nilIface] 39 fun b8 W8 n8=>?_
 have c0:=hB.trans b4
 refine xr 0 (Zzp b8 _ n8.blk) fun W9 b2=>?_
 have c6:=Zb (Zb hc n8.i) b2
 have b5:=blB (blB c0 a1 n8.i) a1 b2
 have b1:=((hO.trans c7).trans (Q0 n8.i)).trans (Q0 b2)
 refine xe 6 .nilIface ?_
 have e9:Zgq l d cs no 6=Hk (Xm l d) cs ((Wj l no).map Lz):=by rw[Zbs ((Zy3 l no).trans a4),hasL_6]
 exact Js (by rw[e9];exact a9) (by rw[e9]) b5 b1 c6
theorem Zrc(d:Nat)(B Bi b bx br:Nat)(pi:O0)(ni ci:Nat)(l:Bl)(g n:Nat)(hR:Bz d B Bi b bx br pi ni ci l g n)(cs:V6 Nat)(no:Int)(w:V1)(hM:RcM B Bi b bx br pi ni ci l g n cs w)(hz:zer cs<d)(hph:phi cs≤999999998000) :
 C0 134 #[P0 bx,V0 no,V0 (-2)] w (Bd B g n (Zgq l d cs no 7) w):=by
 have hc:=hM.hc
 have kx:=hM.kx
 have hI:=hM.hI
 have a3:=hM.hB
 refine zin 75 Tryz.func134 ?_
 refine xb 31 0 kx ?_
 refine xc 1 (Zal Bi b pi ni ci l no _ hI) ?_
 rintro e W1 a4
 rcases a4 with ⟨a1,a6,vx,rfl,a0,a5⟩|⟨a1,pl,cl,rfl,a0,hs⟩
 ·have hB:=blB (U3 B w) a3 a0
  have hO:=(show Zd [3] w _ from(Q0 a0))
  exact xe 16 (.iface a6 (vx)) (Yh (Zer (hasE_7 l no) a1) a1 hB hO a5)
 have a2:=Zb hc a0
 have hB:=blB (U3 B w) a3 a0
 have hO:=(show Zd [3] w _ from(Q0 a0))
 refine xe 16 .nilIface ?_
 have e9:Zgq l d cs no 7=(cs,[],0):=by rw[Zbs ((hasE_7 l no).trans a1),hasL_7];rfl
 exact Js (by rw[e9]) (by rw[e9]) hB hO a2
theorem Zpk(l:Bl)(no:Int)(i:Nat):((Um l no).getD i []).length≤1000:=En _ _ _
theorem Zre(d:Nat)(B Bi b bx br:Nat)(pi:O0)(ni ci:Nat)(l:Bl)(g n:Nat)(hR:Bz d B Bi b bx br pi ni ci l g n)(cs:V6 Nat)(no t:Int)(w:V1)(hM:RcM B Bi b bx br pi ni ci l g n cs w)(hz:zer cs<d)(hph:phi cs≤999999998000)(ht1:1≤t)(ht5:t≤5) :
 C0 134 #[P0 bx,V0 no,V0 t] w (Bd B g n (Zgq l d cs no t) w):=by
 have hc:=hM.hc
 have kx:=hM.kx
 have kr:=hM.kr
 have hI:=hM.hI
 have a6:=hM.hB
 have hn:=hM.hn
 refine zin 75 Tryz.func134 ?_
 refine xk 18 (show((t==(-1:Int)):Bool)=false from beq_false_of_ne M0) ?_
 refine xk 6 (show((t==(-2:Int)):Bool)=false from beq_false_of_ne M0) ?_
 refine xb 8 0 kx ?_
 refine xc 2 (Sq Bi b pi ni ci l no t _ hI) ?_
 rintro e W1 d2
 rcases d2 with ⟨a9,bf,rfl,a0,d6⟩|⟨a9,kp,kc,vp,vc,rfl,a0,e4,b6⟩
 ·refine xa 3 [V0 0,.bool false,S1,S1] 191 fun b2 W2 n2=>?_
  refine xsv 0 n2.blk [V0 0,.bool false,S1,S1] fun W3 u3 k3=>?_
  have g2:=n2.Q (blB (U3 B w) a6 a0)
  have b3:=(d6.i n2.i).q (Q1 (T:=[191]) u3 n2.blk Do) Do
  have hB:=u3.i (blB (blB (U3 B w) a6 a0) a6 n2.i) (N0 a6 g2)
  have hO:=(Q3 ((show Zd [3] w _ from(Q0 a0)).trans (Q0 n2.i)) u3 g2)
  exact xe 19 (.iface 201 (P0 bf)) (Yh (Zer (Zth ht5) a9) a9 hB hO b3)
 have d8:=At w.heap.size
 have e2:=nodT_is a9 ht1
 have d7:=maxC l no t a9
 have e5:=Zf5 l no
 refine xa 3 [V0 0,.bool false,S1,S1] 191 fun b4 W4 n4=>?_
 refine xsv 0 n4.blk [V0 (Qt (inB l no)),.bool (Yg (inB l no)),.slice kp (Xa (inB l no)) kc,.slice vp (Xa (inB l no)) vc] fun W5 u5 k5=>?_
 have g4:=n4.Q (blB (U3 B w) a6 a0)
 refine xb 17 3 k5 ?_
 have b1:=u5.j (Zb (Zg b6 d8) n4.i) n4.blk Do
 have c7:=u5.j (Zb (Zb hc a0) n4.i) n4.blk Do
 have c6:=((hI.i a0).i n4.i).q (Q1 (T:=[191]) u5 n4.blk Do) Do
 have hB:=u5.i (blB (blB (U3 B w) a6 a0) a6 n4.i) (N0 a6 g4)
 have hO:=(Q3 ((show Zd [3] w _ from(Q0 a0)).trans (Q0 n4.i)) u5 g4)
 have c5:=u5.A ((kx.i a0).i n4.i) n4.blk Do
 have c1:=u5.A ((kr.i a0).i n4.i) n4.blk Do
 refine zl 5 75 (fun zm d5 V=>∃ (i:Nat) (c:V6 Nat),d5=[(0,P0 bx),(1,V0 no),(11,P0 b4),(60,.slice vp (Xa (inB l no)) vc),(61,V0 (↑(Xa (inB l no)):Int)),(62,V0 (i:Int))]∧zm=(Xa (inB l no))-((i:Int)).toNat∧Below B w V∧Zd [3] w V∧Blk V bx ([P0 b,P0 br]) 143∧Blk V br ([.slice (S3 g) n n]) 231∧Blk V b4 ([V0 (Qt (inB l no)),.bool (Yg (inB l no)),.slice kp (Xa (inB l no)) kc,.slice vp (Xa (inB l no)) vc]) 191∧V.ownsRow w.heap.size 9 1 (.slice vp (Xa (inB l no)) vc) (Xa (inB l no)) ((Um l no).map sv)∧V.ownsRow B 3 1 (.slice (S3 g) n n) n (c.map nv)∧ImgR Bi b pi ni ci l V∧i≤(Xa (inB l no))∧Vc (Xm l d) cs (Ae l no i) c) ⟨0,cs,rfl,rfl,hB,hO,c5,c1,k5,b1,c7,c6,A5 _,(by rw[Zrn];exact Vc.nil _ _)⟩ ?_
 rintro _ _ W6 ⟨i,c,rfl,rfl,a1,a2,b7,b0,a7,b6,hc,hI,hi,hf⟩ J6 d1 r6
 obtain⟨d9,e3,e1⟩:=hf.b5
 have e0:=Zw5 l no i
 refine xid 6 ((i:Int)<(↑(Xa (inB l no)):Int)) (fun c9=>?_) (fun c9=>?_)
 ·refine xx 6 _ (Xa (inB l no)) i 1 (Strs.elem (Zf b6) (Zf5 l no) (k:=i) M0).1 ?_
  refine xl 0 ((Strs.elem (Zf b6) (Zf5 l no) (k:=i) M0).2) ?_
  refine xlv 7 a7.rp ?_
  refine xc 1 (Zx9 d B Bi b bx br pi ni ci l g n hR c no (Qt (inB l no)) (Yg (inB l no)) kp vp (Xa (inB l no)) kc (Xa (inB l no)) vc ((Um l no).getD i []) _ (hM.move a1 a2 hI hc M0) M0 M0 M0 M0 (Zpk l no i)) ?_
  rintro e W8 d0
  rcases d0 with ⟨b8,d3,vr,rfl,c2,a8,d4⟩|⟨b8,rfl,c2,a8,hc⟩
  ·have c3:=a1.trans c2
   have c8:=a2.trans a8
   refine xe 22 (.iface d3 (vr)) ?_
   have e9:Zgq l d cs no t=Hk (Xm l d) cs (nodX l no):=by rw[Zbs ((Zth ht5).trans a9),hasL_n ht5]
   have e8:=Zx1 M0 hf b8
   exact Yh (c:=(Zgq l d cs no t).1) (bl:=(Zgq l d cs no t).2.1) (er:=(Zgq l d cs no t).2.2) rfl (by rw[e9,e8];exact b8) c3 c8 (by rw[e9,e8];exact d4)
  refine xwm 14 ((i:Int)+1) (↑(i+1):Int) ?_
  have c0:=a1.trans c2
  have b9:=a2.trans a8
  have a5:=b7.q a8 Do
  have a4:=b0.q a8 Do
  have a3:=a7.q a8 Do
  have b5:=Zi b6 a8 Do
  have c4:=hI.q a8 Do
  exact ze 2 (d1 _ _ _ ⟨i+1,_,rfl,rfl,c0,b9,a5,a4,a3,b5,hc,c4,M0,Zp4 M0 hf b8⟩ M0)
 refine xe 11 .nilIface ?_
 have e9:Zgq l d cs no t=Hk (Xm l d) cs (nodX l no):=by rw[Zbs ((Zth ht5).trans a9),hasL_n ht5]
 obtain rfl:i=(Um l no).length:=M0
 rw[Zv1] at hf
 exact Js (by rw[e9];exact hf.1) (by rw[e9];exact hf.2) a1 a2 hc
theorem Zuy(d:Nat)(B Bi b bx br:Nat)(pi:O0)(ni ci:Nat)(l:Bl)(g n:Nat)(hR:Bz d B Bi b bx br pi ni ci l g n)(cs:V6 Nat)(no ak:Int)(w:V1)(hM:RcM B Bi b bx br pi ni ci l g n cs w)(hz:zer cs<d)(hph:phi cs≤999999998000)(h1:1≤ak)(h7:ak≤7) :
 C0 134 #[P0 bx,V0 no,V0 (asP ak)] w (Bd B g n (Zgq l d cs no ak) w):=by
 by_cases h6:ak=6
 ·subst h6;exact Zqh d B Bi b bx br pi ni ci l g n hR cs no w hM hz hph
 ·by_cases h8:ak=7
  ·subst h8;exact Zrc d B Bi b bx br pi ni ci l g n hR cs no w hM hz hph
  ·rw[asP_id M0];exact Zre d B Bi b bx br pi ni ci l g n hR cs no ak w hM hz hph h1 M0
theorem Zr2{l:Bl}{d:Nat}{cs:V6 Nat}{no ak:Int}(h:¬ (0≤no∧no<cs.length)):Xm l (d+1) cs (no,ak,0)=(cs,[no],3):=by unfold Xm;rw[V7 (fun q=>q rfl),V8 h]
theorem Zlm{l:Bl}{d:Nat}{cs:V6 Nat}{no ak:Int}(h:0≤no∧no<cs.length)(h2:cs.getD no.toNat 0≠0):Xm l (d+1) cs (no,ak,0)=(Nl cs no,[],0):=by unfold Xm;rw[V7 (fun q=>q rfl),V7 (fun q=>q h),V8 h2]
theorem Zdw{l:Bl}{d:Nat}{cs:V6 Nat}{no ak:Int}(h:0≤no∧no<cs.length)(h2:cs.getD no.toNat 0=0):Xm l (d+1) cs (no,ak,0)=Zgq l d (Nl cs no) no ak:=by unfold Xm;rw[V7 (fun q=>q rfl),V7 (fun q=>q h),V7 (fun q=>q h2)];rfl
theorem Zku(d:Nat)(B Bi b bx br:Nat)(pi:O0)(ni ci:Nat)(l:Bl)(g n:Nat)(hR:Bz d B Bi b bx br pi ni ci l g n)(cs:V6 Nat)(no ak:Int)(w:V1)(hM:RcM B Bi b bx br pi ni ci l g n cs w)(hz:zer cs<d+1)(hph:phi cs≤1000000000000)(h1:1≤ak)(h7:ak≤7) :
 C0 72 #[P0 bx,V0 no,V0 (asP ak)] w (Bd B g n (Xm l (d+1) cs (no,ak,0)) w):=by
 have hc:=hM.hc
 have kx:=hM.kx
 have kr:=hM.kr
 have hI:=hM.hI
 have b2:=hM.hB
 have hn:=hM.hn
 refine zin 30 Tryz.func72 ?_
 refine xb 10 1 kx ?_
 refine xc 1 (args:=#[P0 br,V0 no]) (refs_Add B br g n cs no _ kr (N0 b2 (U3 B _).size) hc hn hph) ?_
 rintro e W1 b5
 rcases b5 with ⟨a0,rfl,a1,a2,hc⟩|⟨a0,rfl,a1,a2,hc⟩
 ·refine xc 20 (args:=#[V0 no,.iface 33 (V0 3)]) (Qm no 3 [] _ _ rfl) ?_
  rintro _ W2 ⟨c0,v2,rfl,b3,b8⟩
  have hB:=blB a1 b2 b3
  have hO:=(show Zd [3] w _ from a2).trans (Q0 b3)
  exact xe 5 (.iface c0 (v2)) (Yh (Zr2 a0) Do hB hO b8)
 have b4:=Rc a0.1 a0.2
 have c3:=Rf a0.1 a0.2
 have c2:=Vv cs no
 refine xid 24 ((↑(cs.getD no.toNat 0+1):Int)>(1:Int)) (fun c1=>?_) (fun c1=>?_)
 ·have hO:=(show Zd [3] w _ from a2)
  refine xe 7 .nilIface ?_
  have e9:(Xm l (d+1) cs (no,ak,0))=_:=Zlm a0 M0
  exact Js (by rw[e9]) (by rw[e9]) a1 hO hc
 have b0:=hI.q a2 Do
 have a7:cs.getD no.toNat 0=0:=M0
 rw[V8 a7] at b4
 have hO:=(show Zd [3] w _ from a2)
 refine xc 7 (Zuy d B Bi b bx br pi ni ci l g n hR (Nl cs no) no ak _ (hM.move a1 hO b0 hc M0) M0 (by unfold phi at hph ⊢;omega) h1 h7) ?_
 rintro e W4 b7
 rcases b7 with ⟨a6,b6,vr,rfl,a9,a5,b9⟩|⟨a6,rfl,a9,a5,hc⟩
 ·have a8:=a1.trans a9
  have b1:=hO.trans a5
  refine xe 4 (.iface b6 (vr)) ?_
  have e9:(Xm l (d+1) cs (no,ak,0))=_:=Zdw a0 a7
  exact Yh (c:=(Xm l (d+1) cs (no,ak,0)).1) (bl:=(Xm l (d+1) cs (no,ak,0)).2.1) (er:=(Xm l (d+1) cs (no,ak,0)).2.2) rfl (by rw[e9];exact a6) a8 b1 (by rw[e9];exact b9)
 have a4:=a1.trans a9
 have a3:=hO.trans a5
 refine xe 4 .nilIface ?_
 have e9:(Xm l (d+1) cs (no,ak,0))=_:=Zdw a0 a7
 exact Js (by rw[e9];exact a6) (by rw[e9]) a4 a3 hc
theorem Im:∀ (d:Nat) (B Bi b bx br:Nat) (pi:O0) (ni ci:Nat) (l:Bl) (g n:Nat),Bz d B Bi b bx br pi ni ci l g n
 | 0,B,Bi,b,bx,br,pi,ni,ci,l,g,n=>fun cs no ak w _ hz _ _ _=>absurd hz M0
 | d+1,B,Bi,b,bx,br,pi,ni,ci,l,g,n=>fun cs no ak w hM hz a0 h1 h7=>Zku d B Bi b bx br pi ni ci l g n (Im d B Bi b bx br pi ni ci l g n) cs no ak w hM hz a0 h1 h7
open Classical in
def CntsP(O:Cx)(w:V1)(e:V5)(w':V1):Prop :=
 (O.2.2≠0∧∃ ty v,e=.returned (.tuple #[S1,.iface ty v])∧B3 w w'∧Kx w' (O.2.1.map some) (some O.2.2) (.iface ty v)) ∨
 (O.2.2=0∧∃ p c,e=.returned (.tuple #[.slice p O.1.length c,.nilIface])∧B3 w w'∧w'.ownsRow w.heap.size 3 1 (.slice p O.1.length c) O.1.length (O.1.map nv))
theorem Lp{O:Cx}{c:V6 Nat}{bl:V6 Int}{er:Int}{w W:V1}{ty:V3}{v:V2}(h:O=(c,bl,er))(her:er≠0)(hb:B3 w W)(hv:Kx W (bl.map some) (some er) (.iface ty v)):CntsP O w (.returned (.tuple #[S1,.iface ty v])) W:=by
 subst h;exact .inl ⟨her,ty,v,rfl,hb,hv⟩
theorem cnts_ok{O:Cx}{c:V6 Nat}{m d:Nat}{p:O0}{w W:V1}(h:O.2.2=0)(h1:O.1=c)(hm:c.length=m)(hb:B3 w W)(ho:W.ownsRow w.heap.size 3 1 (.slice p m d) m (c.map nv)):CntsP O w (.returned (.tuple #[.slice p m d,.nilIface])) W:=by
 subst h1 hm;exact .inr ⟨h,p,d,rfl,hb,ho⟩
theorem phi_zero(n:Nat):phi (replicate n 0)≤2001*n:=by
 unfold phi zer;rw[List.count_replicate_self,P4];omega
def Zog(s:Sup)(z:Int):Bool:=(((((((((((true&&decide ((0:Int)≤s.tx∧s.tx≤2147483647))&&decide ((0:Int)≤s.time∧s.time≤16777215))&&decide ((1:Int)≤s.unit∧s.unit≤65536))&&decide ((0:Int)≤s.data∧s.data≤65536))&&decide ((2:Int)≤s.blocks∧s.blocks≤14400))&&decide ((1:Int)≤s.top∧s.top≤z))&&decide ((1:Int)≤s.details∧s.details≤z))&&decide ((1:Int)≤s.D∧s.D≤z))&&decide ((1:Int)≤s.G∧s.G≤z))&&decide ((1:Int)≤s.E∧s.E≤z))&&decide ((1:Int)≤s.H∧s.H≤z))
theorem Zw1{s:Sup}{z:Int}(h:IntKind.i64.wrap (s.blocks-1)=z):Zog s z=Yz s:=by
 by_cases hb:(2:Int)≤s.blocks∧s.blocks≤14400
 ·have e:z=s.blocks-1:=by rw[←h];exact IntWalk.i64_in _ M0
  subst e;rfl
 ·have hd:decide ((2:Int)≤s.blocks∧s.blocks≤14400)=false:=V9 hb;unfold Zog Yz;rw[hd];simp
theorem Zu5{s:Sup}(h:Yz s=true):2≤s.blocks∧s.blocks≤14400:=by
 by_cases hb:(2:Int)≤s.blocks∧s.blocks≤14400
 ·exact hb
 ·have hd:decide ((2:Int)≤s.blocks∧s.blocks≤14400)=false:=V9 hb;unfold Yz at h;rw[hd] at h;simp at h
theorem Zaq(B bs bo:Nat)(s:Sup)(w:V1)(hBw:B≤w.heap.size)(hBo:B≤bo)(ks:Blk w bs [V0 s.tx,V0 s.time,V0 s.unit,V0 s.data,V0 s.blocks,V0 s.top,V0 s.details,V0 s.D,V0 s.G,V0 s.E,V0 s.H] 54)(ko:Blk w bo [.bool true] 4) :
 C0 95 #[P0 bs,.func (.func 133) #[] #[P0 bo]] w ((fun e w'=>∃ u,e=.returned u∧Below B w w'∧Zd [4] w w'∧Blk w' bo [.bool (Zog s (IntKind.i64.wrap (s.blocks-1)))] 4)):=by
 refine zin 64 Tryz.func95 ?_
 refine xc 6 (args:=#[P0 bs,V0 0,V0 2147483647,P0 bo]) (Xs B bs bo 0 _ s.tx 0 2147483647 true _ (N0 hBw (U3 B _).size) hBo ks rfl ko) ?_
 rintro _ W1 ⟨u1,rfl,e1,e4,f4⟩
 have a9:=ks.q e4 Do
 refine xc 8 (args:=#[.pointer (some ⟨bs,1,none⟩),V0 0,V0 16777215,P0 bo]) (Xs B bs bo 1 _ s.time 0 16777215 (true&&decide ((0:Int)≤s.tx∧s.tx≤2147483647)) _ (N0 hBw e1.size) hBo a9 rfl f4) ?_
 rintro _ W2 ⟨u2,rfl,f9,e3,g0⟩
 have b8:=e1.trans f9
 have c6:=a9.q e3 Do
 refine xc 8 (args:=#[.pointer (some ⟨bs,2,none⟩),V0 1,V0 65536,P0 bo]) (Xs B bs bo 2 _ s.unit 1 65536 ((true&&decide ((0:Int)≤s.tx∧s.tx≤2147483647))&&decide ((0:Int)≤s.time∧s.time≤16777215)) _ (N0 hBw b8.size) hBo c6 rfl g0) ?_
 rintro _ W3 ⟨u3,rfl,f8,e2,f2⟩
 have b0:=b8.trans f8
 have b2:=c6.q e2 Do
 refine xc 8 (args:=#[.pointer (some ⟨bs,3,none⟩),V0 0,V0 65536,P0 bo]) (Xs B bs bo 3 _ s.data 0 65536 (((true&&decide ((0:Int)≤s.tx∧s.tx≤2147483647))&&decide ((0:Int)≤s.time∧s.time≤16777215))&&decide ((1:Int)≤s.unit∧s.unit≤65536)) _ (N0 hBw b0.size) hBo b2 rfl f2) ?_
 rintro _ W4 ⟨u4,rfl,f7,e0,f1⟩
 have c2:=b0.trans f7
 have b7:=b2.q e0 Do
 refine xc 8 (args:=#[.pointer (some ⟨bs,4,none⟩),V0 2,V0 14400,P0 bo]) (Xs B bs bo 4 _ s.blocks 2 14400 ((((true&&decide ((0:Int)≤s.tx∧s.tx≤2147483647))&&decide ((0:Int)≤s.time∧s.time≤16777215))&&decide ((1:Int)≤s.unit∧s.unit≤65536))&&decide ((0:Int)≤s.data∧s.data≤65536)) _ (N0 hBw c2.size) hBo b7 rfl f1) ?_
 rintro _ W5 ⟨u5,rfl,f6,e5,e7⟩
 refine xd 3 .z ?_
 refine xbs (.o [0,1,2,3,4,5,6,7,8,9,10,11,12,13,14,15,16,17,20] 18) 6 [.pointer (some ⟨bs,5,none⟩),.pointer (some ⟨bs,6,none⟩),.pointer (some ⟨bs,7,none⟩),.pointer (some ⟨bs,8,none⟩),.pointer (some ⟨bs,9,none⟩),.pointer (some ⟨bs,10,none⟩)] 181 fun b6 W6 n6=>?_
 have d6:=blB (c2.trans f6) hBw (Za W5)
 refine xu (.r [19] 3) 7 ?_
 refine xb 14 0 n6.blk ?_
 have a6:=((b7.q e5 Do).i (Za W5)).i n6.i
 refine xb 9 4 a6 ?_
 have c1:=blB d6 hBw n6.i
 have b9:=(e7.i (Za W5)).i n6.i
 refine xc 1 (args:=#[.pointer (some ⟨bs,5,none⟩),V0 1,V0 (IntKind.i64.wrap (s.blocks-(1:Int))),P0 bo]) (Xs B bs bo 5 _ s.top 1 (IntKind.i64.wrap (s.blocks-(1:Int))) (((((true&&decide ((0:Int)≤s.tx∧s.tx≤2147483647))&&decide ((0:Int)≤s.time∧s.time≤16777215))&&decide ((1:Int)≤s.unit∧s.unit≤65536))&&decide ((0:Int)≤s.data∧s.data≤65536))&&decide ((2:Int)≤s.blocks∧s.blocks≤14400)) _ (N0 hBw c1.size) hBo a6 rfl b9) ?_
 rintro _ W7 ⟨u7,rfl,e6,d4,e8⟩
 have b3:=n6.blk.q d4 Do
 refine xb 22 1 b3 ?_
 have a5:=a6.q d4 Do
 refine xb 9 4 a5 ?_
 have c0:=c1.trans e6
 refine xc 1 (args:=#[.pointer (some ⟨bs,6,none⟩),V0 1,V0 (IntKind.i64.wrap (s.blocks-(1:Int))),P0 bo]) (Xs B bs bo 6 _ s.details 1 (IntKind.i64.wrap (s.blocks-(1:Int))) ((((((true&&decide ((0:Int)≤s.tx∧s.tx≤2147483647))&&decide ((0:Int)≤s.time∧s.time≤16777215))&&decide ((1:Int)≤s.unit∧s.unit≤65536))&&decide ((0:Int)≤s.data∧s.data≤65536))&&decide ((2:Int)≤s.blocks∧s.blocks≤14400))&&decide ((1:Int)≤s.top∧s.top≤IntKind.i64.wrap (s.blocks-1))) _ (N0 hBw c0.size) hBo a5 rfl e8) ?_
 rintro _ W8 ⟨u8,rfl,f3,d8,e9⟩
 have c4:=b3.q d8 Do
 refine xb 22 2 c4 ?_
 have a4:=a5.q d8 Do
 refine xb 9 4 a4 ?_
 have c5:=c0.trans f3
 refine xc 1 (args:=#[.pointer (some ⟨bs,7,none⟩),V0 1,V0 (IntKind.i64.wrap (s.blocks-(1:Int))),P0 bo]) (Xs B bs bo 7 _ s.D 1 (IntKind.i64.wrap (s.blocks-(1:Int))) (((((((true&&decide ((0:Int)≤s.tx∧s.tx≤2147483647))&&decide ((0:Int)≤s.time∧s.time≤16777215))&&decide ((1:Int)≤s.unit∧s.unit≤65536))&&decide ((0:Int)≤s.data∧s.data≤65536))&&decide ((2:Int)≤s.blocks∧s.blocks≤14400))&&decide ((1:Int)≤s.top∧s.top≤IntKind.i64.wrap (s.blocks-1)))&&decide ((1:Int)≤s.details∧s.details≤IntKind.i64.wrap (s.blocks-1))) _ (N0 hBw c5.size) hBo a4 rfl e9) ?_
 rintro _ W9 ⟨u9,rfl,f5,d1,f0⟩
 have b4:=c4.q d1 Do
 refine xb 22 3 b4 ?_
 have a8:=a4.q d1 Do
 refine xb 9 4 a8 ?_
 have c3:=c5.trans f5
 refine xc 1 (args:=#[.pointer (some ⟨bs,8,none⟩),V0 1,V0 (IntKind.i64.wrap (s.blocks-(1:Int))),P0 bo]) (Xs B bs bo 8 _ s.G 1 (IntKind.i64.wrap (s.blocks-(1:Int))) ((((((((true&&decide ((0:Int)≤s.tx∧s.tx≤2147483647))&&decide ((0:Int)≤s.time∧s.time≤16777215))&&decide ((1:Int)≤s.unit∧s.unit≤65536))&&decide ((0:Int)≤s.data∧s.data≤65536))&&decide ((2:Int)≤s.blocks∧s.blocks≤14400))&&decide ((1:Int)≤s.top∧s.top≤IntKind.i64.wrap (s.blocks-1)))&&decide ((1:Int)≤s.details∧s.details≤IntKind.i64.wrap (s.blocks-1)))&&decide ((1:Int)≤s.D∧s.D≤IntKind.i64.wrap (s.blocks-1))) _ (N0 hBw c3.size) hBo a8 rfl f0) ?_
 rintro _ g7 ⟨g2,rfl,c8,a2,d5⟩
 have b1:=b4.q a2 Do
 refine xb 22 4 b1 ?_
 have a7:=a8.q a2 Do
 refine xb 9 4 a7 ?_
 have c7:=c3.trans c8
 refine xc 1 (args:=#[.pointer (some ⟨bs,9,none⟩),V0 1,V0 (IntKind.i64.wrap (s.blocks-(1:Int))),P0 bo]) (Xs B bs bo 9 _ s.E 1 (IntKind.i64.wrap (s.blocks-(1:Int))) (((((((((true&&decide ((0:Int)≤s.tx∧s.tx≤2147483647))&&decide ((0:Int)≤s.time∧s.time≤16777215))&&decide ((1:Int)≤s.unit∧s.unit≤65536))&&decide ((0:Int)≤s.data∧s.data≤65536))&&decide ((2:Int)≤s.blocks∧s.blocks≤14400))&&decide ((1:Int)≤s.top∧s.top≤IntKind.i64.wrap (s.blocks-1)))&&decide ((1:Int)≤s.details∧s.details≤IntKind.i64.wrap (s.blocks-1)))&&decide ((1:Int)≤s.D∧s.D≤IntKind.i64.wrap (s.blocks-1)))&&decide ((1:Int)≤s.G∧s.G≤IntKind.i64.wrap (s.blocks-1))) _ (N0 hBw c7.size) hBo a7 rfl d5) ?_
 rintro _ g1 ⟨g3,rfl,d9,a3,c9⟩
 have d0:=b1.q a3 Do
 refine xb 22 5 d0 ?_
 have a1:=a7.q a3 Do
 refine xb 9 4 a1 ?_
 have a0:=c7.trans d9
 refine xc 1 (args:=#[.pointer (some ⟨bs,10,none⟩),V0 1,V0 (IntKind.i64.wrap (s.blocks-(1:Int))),P0 bo]) (Xs B bs bo 10 _ s.H 1 (IntKind.i64.wrap (s.blocks-(1:Int))) ((((((((((true&&decide ((0:Int)≤s.tx∧s.tx≤2147483647))&&decide ((0:Int)≤s.time∧s.time≤16777215))&&decide ((1:Int)≤s.unit∧s.unit≤65536))&&decide ((0:Int)≤s.data∧s.data≤65536))&&decide ((2:Int)≤s.blocks∧s.blocks≤14400))&&decide ((1:Int)≤s.top∧s.top≤IntKind.i64.wrap (s.blocks-1)))&&decide ((1:Int)≤s.details∧s.details≤IntKind.i64.wrap (s.blocks-1)))&&decide ((1:Int)≤s.D∧s.D≤IntKind.i64.wrap (s.blocks-1)))&&decide ((1:Int)≤s.G∧s.G≤IntKind.i64.wrap (s.blocks-1)))&&decide ((1:Int)≤s.E∧s.E≤IntKind.i64.wrap (s.blocks-1))) _ (N0 hBw a0.size) hBo a1 rfl c9) ?_
 rintro _ g6 ⟨g5,rfl,d2,d3,d7⟩
 have b5:=a0.trans d2
 have hO:=((((((((((((show Zd [4] w _ from e4).trans e3).trans e2).trans e0).trans e5).trans (Q0 (Za W5))).trans (Q0 n6.i)).trans d4).trans d8).trans d1).trans a2).trans a3).trans d3
 exact xe 19 (.tuple #[]) ⟨_,rfl,b5,hO,d7⟩
theorem Zsq(s:Sup)(w:V1) :
 C0 69 #[.agg #[V0 s.tx,V0 s.time,V0 s.unit,V0 s.data,V0 s.blocks,V0 s.top,V0 s.details,V0 s.D,V0 s.G,V0 s.E,V0 s.H]] w (Ret (.bool (Yz s)) w):=by
 refine zin 7 Tryz.func69 ?_
 refine xa 2 [V0 s.tx,V0 s.time,V0 s.unit,V0 s.data,V0 s.blocks,V0 s.top,V0 s.details,V0 s.D,V0 s.G,V0 s.E,V0 s.H] 54 fun b1 W1 n1=>?_
 refine xa 5 [.bool false] 4 fun b2 W2 n2=>?_
 refine xs 0 n2.blk [.bool true] fun W3 u3 k3=>?_
 have g2:=n2.ge n1.i
 have hB:=u3.i (bln n1.i n2.i) g2
 have k1:=u3.A (n1.blk.i n2.i) n2.blk Do
 refine xc 5 (Zaq w.heap.size b1 b2 s _ hB.size g2 k1 k3) ?_
 rintro _ W4 ⟨u4,rfl,a1,a3,a2⟩
 refine xb 4 0 a2 ?_
 have a0:=hB.trans a1
 exact xe 4 (.bool (Zog s (IntKind.i64.wrap (s.blocks-1)))) ⟨by rw[Zw1 rfl],a0⟩
def supRx(s:Sup):V6 Rx:=[(s.top,1,0),(s.details,3,0),(s.D,4,0),(s.G,5,0),(s.E,6,0),(s.H,5,0)]
def Rm(n:Nat):V6 Nat:=Nl (replicate n 0) 0
theorem Ub(n:Nat):(Rm n).length=n:=by unfold Rm;rw[Vv,B7]
def Zbd(l:Bl)(s:Sup):Cx:=if Yz s=false then([],[],1) else Pw l (Rm s.blocks.toNat) (supRx s)
theorem Zrz{l:Bl}{s:Sup}(h:Yz s=false):Zbd l s=([],[],1):=V8 h
theorem Pf{l:Bl}{s:Sup}(h:Yz s=true):Zbd l s=Hk (Xm l (s.blocks.toNat+1)) (Rm s.blocks.toNat) (supRx s):=by
 unfold Zbd;rw[V7 (by rw[h];decide)];unfold Pw;rw[Ub]
theorem Vc.more{f:V6 Nat→Rx→Cx}{cs c c':V6 Nat}{L:V6 Rx}(h:Vc f cs L c){x:Rx}(hc:(f c x).1=c')(h2:(f c x).2.2=0):Vc f cs (L++[x]) c':=hc▸h.next h2
theorem phi0(n:Nat):phi (Rm n)≤2001*n+1:=by
 unfold Rm;by_cases h:0<n
 ·have hz:=Rc (cs:=replicate n 0) (k:=0) Do (by rw[B7];omega);have hs:=Rf (cs:=replicate n 0) (k:=0) Do (by rw[B7];omega);have:=phi_zero n;unfold phi at this ⊢;omega
 ·obtain rfl:n=0:=M0;decide
theorem Zvp(n:Int)(w:V1)(h:0≤n∧n≤65536):C0 70 #[V0 n] w (Kd (fun w' r=>∃ br g,r=.tuple #[P0 br,V0 0]∧w.heap.size≤br∧Blk w' br [.slice (S3 g) n.toNat n.toNat] 231∧w'.ownsRow w.heap.size 3 1 (.slice (S3 g) n.toNat n.toNat) n.toNat ((replicate n.toNat (0:Nat)).map nv)) w):=by
 obtain⟨m,rfl⟩:∃ m:Nat,n=(m:Int):=⟨n.toNat,M0⟩;exact Zig m w M0
theorem Zxw(B br g:Nat)(n:Int)(w:V1)(kr:Blk w br [.slice (S3 g) n.toNat n.toNat] 231)(hBw:B≤w.heap.size)(hc:w.ownsRow B 3 1 (.slice (S3 g) n.toNat n.toNat) n.toNat ((replicate n.toNat 0).map nv))(hn:1≤n) :
 C0 71 #[P0 br,V0 0] w (fun e w'=>e=.returned (.tuple #[V0 1,V0 0])∧Below B w w'∧Zd [3] w w'∧w'.ownsRow B 3 1 (.slice (S3 g) n.toNat n.toNat) n.toNat ((Rm n.toNat).map nv)):=by
 have e0:(replicate n.toNat (0:Nat)).getD 0 0=0:=by rw[getD,L1];split<;>rfl
 have q:=Zjg B br g n.toNat 0 (replicate n.toNat 0) w kr hBw hc B7 M0 (by rw[e0];omega)
 rw[e0] at q
 exact q
theorem Zkk(Bi b:Nat)(pi:O0)(ni ci:Nat)(l:Bl)(s:Sup)(w:V1)(hI:ImgR Bi b pi ni ci l w) :
 C0 26 #[P0 b,.agg #[V0 s.tx,V0 s.time,V0 s.unit,V0 s.data,V0 s.blocks,V0 s.top,V0 s.details,V0 s.D,V0 s.G,V0 s.E,V0 s.H]] w (CntsP (Zbd l s) w):=by
 refine zin 67 Tryz.func26 ?_
 refine xa 2 [V0 s.tx,V0 s.time,V0 s.unit,V0 s.data,V0 s.blocks,V0 s.top,V0 s.details,V0 s.D,V0 s.G,V0 s.E,V0 s.H] 54 fun b1 W1 n1=>?_
 refine xlv 7 n1.blk.rp ?_
 refine xr 0 (Zsq s _) fun W2 l9=>?_
 refine xi 3 (!(Yz s)) (fun f9=>?_) (fun f9=>?_)
 ·have b4:Yz s=false:=Zci f9
  have hB:=bln n1.i l9
  refine xe 9 (.tuple #[S1,.iface 33 (V0 1)]) ?_
  exact Lp (bl:=[]) (Zrz b4) Do hB rfl
 have b4:Yz s=true:=Zcj f9
 have p4:=Zu5 b4
 have h4:=n1.blk.i l9
 refine xb 5 4 h4 ?_
 have hB:=bln n1.i l9
 have o7:=hB.size
 refine xc 0 (Zvp s.blocks _ M0) ?_
 rintro _ W4 ⟨_,rfl,m2,br,g,rfl,m6,m9,hc⟩
 replace m6:=N0 o7 m6
 have j4:=Zg hc hB.size
 have i2:=bln hB m2
 refine xc 10 (Zxw w.heap.size br g s.blocks _ m9 i2.size j4 M0) ?_
 rintro _ W5 ⟨rfl,o8,n5,hc⟩
 have m3:Vc (Xm l (s.blocks.toNat+1)) (Rm s.blocks.toNat) [] (Rm s.blocks.toNat):=Vc.nil _ _
 have o4:2≤s.blocks.toNat∧s.blocks.toNat≤14400:=M0
 have q8:=phi0 s.blocks.toNat
 have o3:=zer_le (Rm s.blocks.toNat)
 rw[Ub] at o3
 refine xa 7 [P0 b,P0 br] 143 fun b6 W6 n6=>?_
 have k5:=i2.trans o8
 have a5:=((h4.i m2).q n5 Do).i n6.i
 refine xb 7 5 a5 ?_
 refine xb 2 6 a5 ?_
 refine xb 2 7 a5 ?_
 refine xb 2 8 a5 ?_
 refine xb 2 9 a5 ?_
 refine xb 2 10 a5 ?_
 refine xbs 1 6 [V0 s.top,V0 1,V0 s.details,V0 3,V0 s.D,V0 4,V0 s.G,V0 5,V0 s.E,V0 (-1),V0 s.H,V0 5] 144 fun b7 W7 n7=>?_
 have l7:=bln k5 n6.i
 refine xu 5 7 ?_
 refine xlv 14 (n7.blk.a2 0 2) ?_
 refine xa 0 [V0 0,V0 0] 144 fun b8 W8 n8=>?_
 have g7:=n8.ne n7.blk
 have h8:=bln l7 n7.i
 have g8:=n8.ge h8
 refine xsv 0 n8.blk [V0 s.top,V0 1] fun W9 u9 k9=>?_
 refine xb 6 0 k9 ?_
 refine xb 1 1 k9 ?_
 have k6:=u9.A ((n6.blk.i n7.i).i n8.i) n8.blk Do
 have d6:=u9.A ((((m9.q n5 Do).i n6.i).i n7.i).i n8.i) n8.blk Do
 have l8:=u9.j (Zb (Zb (Zb hc n6.i) n7.i) n8.i) n8.blk Do
 have c9:=u9.i (bln h8 n8.i) g8
 refine xc 0 (args:=#[P0 b6,V0 s.top,V0 1]) ((Im (s.blocks.toNat+1) w.heap.size Bi b b6 br pi ni ci l g s.blocks.toNat) (Rm s.blocks.toNat) s.top 1 _ ⟨hI.i c9,k6,d6,l8,Ub _,c9.size⟩ M0 M0 Do Do) ?_
 rintro e s4 k3
 rcases k3 with ⟨a0,a8,vr,rfl,e6,c7,b0⟩|⟨a0,rfl,e6,c7,hc⟩
 ·have b3:=m3.d1 (x:=(s.top,1,0)) a0 [(s.details,3,0),(s.D,4,0),(s.G,5,0),(s.E,6,0),(s.H,5,0)]
  have l5:=c9.trans e6
  refine xe 23 (.tuple #[S1,.iface a8 (vr)]) ?_
  exact Lp ((Pf b4).trans b3) a0 l5 b0
 obtain⟨c1,m4⟩:∃ c,(Xm l (s.blocks.toNat+1) (Rm s.blocks.toNat) (s.top,1,0)).1=c:=⟨_,rfl⟩
 rw[m4] at hc
 have j6:Vc (Xm l (s.blocks.toNat+1)) (Rm s.blocks.toNat) [(s.top,1,0)] c1:=m3.more m4 a0
 have i5:=j6.b5
 rw[Ub] at i5
 have q2:phi c1≤30000000:=by have:=i5.2.2;simp only[C5,E4] at this;omega
 have p7:zer c1<s.blocks.toNat+1:=by have:=i5.2.1;omega
 have f0:=(u9.blk (n7.blk.i n8.i) g7).q c7 Do
 refine xlv 32 (f0.a2 2 2) ?_
 refine xa 0 [V0 0,V0 0] 144 fun p3 q3 a9=>?_
 have f2:=a9.ne f0
 have i3:=c9.trans e6
 have o5:=a9.ge i3
 refine xsv 0 a9.blk [V0 s.details,V0 3] fun s3 h6 m1=>?_
 refine xb 6 0 m1 ?_
 refine xb 1 1 m1 ?_
 have g0:=h6.A ((k6.q c7 Do).i a9.i) a9.blk Do
 have d7:=h6.A ((d6.q c7 Do).i a9.i) a9.blk Do
 have k8:=h6.j (Zb hc a9.i) a9.blk Do
 have d0:=h6.i (bln i3 a9.i) o5
 refine xc 0 ((Im (s.blocks.toNat+1) w.heap.size Bi b b6 br pi ni ci l g s.blocks.toNat) c1 s.details 3 _ ⟨hI.i d0,g0,d7,k8,i5.1,d0.size⟩ M0 M0 Do Do) ?_
 rintro e r9 k7
 rcases k7 with ⟨a0,a8,vr,rfl,f4,d2,b0⟩|⟨a0,rfl,f4,d2,hc⟩
 ·have b3:=j6.d1 (x:=(s.details,3,0)) a0 [(s.D,4,0),(s.G,5,0),(s.E,6,0),(s.H,5,0)]
  have j5:=d0.trans f4
  refine xe 23 (.tuple #[S1,.iface a8 (vr)]) ?_
  exact Lp ((Pf b4).trans b3) a0 j5 b0
 obtain⟨c2,n0⟩:∃ c,(Xm l (s.blocks.toNat+1) c1 (s.details,3,0)).1=c:=⟨_,rfl⟩
 rw[n0] at hc
 have l6:Vc (Xm l (s.blocks.toNat+1)) (Rm s.blocks.toNat) [(s.top,1,0),(s.details,3,0)] c2:=j6.more n0 a0
 have i9:=l6.b5
 rw[Ub] at i9
 have p8:phi c2≤30000000:=by have:=i9.2.2;simp only[C5,E4] at this;omega
 have r0:zer c2<s.blocks.toNat+1:=by have:=i9.2.1;omega
 have f6:=(h6.blk (f0.i a9.i) f2).q d2 Do
 refine xlv 32 (f6.a2 4 2) ?_
 refine xa 0 [V0 0,V0 0] 144 fun p2 r5 b2=>?_
 have f1:=b2.ne f6
 have d3:=d0.trans f4
 have o1:=b2.ge d3
 refine xsv 0 b2.blk [V0 s.D,V0 4] fun q7 h2 n2=>?_
 refine xb 6 0 n2 ?_
 refine xb 1 1 n2 ?_
 have h0:=h2.A ((g0.q d2 Do).i b2.i) b2.blk Do
 have d4:=h2.A ((d7.q d2 Do).i b2.i) b2.blk Do
 have j0:=h2.j (Zb hc b2.i) b2.blk Do
 have a4:=h2.i (bln d3 b2.i) o1
 refine xc 0 ((Im (s.blocks.toNat+1) w.heap.size Bi b b6 br pi ni ci l g s.blocks.toNat) c2 s.D 4 _ ⟨hI.i a4,h0,d4,j0,i9.1,a4.size⟩ M0 M0 Do Do) ?_
 rintro e r6 k0
 rcases k0 with ⟨a0,a8,vr,rfl,e5,c8,b0⟩|⟨a0,rfl,e5,c8,hc⟩
 ·have b3:=l6.d1 (x:=(s.D,4,0)) a0 [(s.G,5,0),(s.E,6,0),(s.H,5,0)]
  have h1:=a4.trans e5
  refine xe 23 (.tuple #[S1,.iface a8 (vr)]) ?_
  exact Lp ((Pf b4).trans b3) a0 h1 b0
 obtain⟨c3,f9⟩:∃ c,(Xm l (s.blocks.toNat+1) c2 (s.D,4,0)).1=c:=⟨_,rfl⟩
 rw[f9] at hc
 have j3:Vc (Xm l (s.blocks.toNat+1)) (Rm s.blocks.toNat) [(s.top,1,0),(s.details,3,0),(s.D,4,0)] c3:=l6.more f9 a0
 have i7:=j3.b5
 rw[Ub] at i7
 have r1:phi c3≤30000000:=by have:=i7.2.2;simp only[C5,E4] at this;omega
 have q1:zer c3<s.blocks.toNat+1:=by have:=i7.2.1;omega
 have e7:=(h2.blk (f6.i b2.i) f1).q c8 Do
 refine xlv 32 (e7.a2 6 2) ?_
 refine xa 0 [V0 0,V0 0] 144 fun r7 q6 a7=>?_
 have f3:=a7.ne e7
 have e2:=a4.trans e5
 have o6:=a7.ge e2
 refine xsv 0 a7.blk [V0 s.G,V0 5] fun q5 i1 n4=>?_
 refine xb 6 0 n4 ?_
 refine xb 1 1 n4 ?_
 have g3:=i1.A ((h0.q c8 Do).i a7.i) a7.blk Do
 have e3:=i1.A ((d4.q c8 Do).i a7.i) a7.blk Do
 have l1:=i1.j (Zb hc a7.i) a7.blk Do
 have a2:=i1.i (bln e2 a7.i) o6
 refine xc 0 ((Im (s.blocks.toNat+1) w.heap.size Bi b b6 br pi ni ci l g s.blocks.toNat) c3 s.G 5 _ ⟨hI.i a2,g3,e3,l1,i7.1,a2.size⟩ M0 M0 Do Do) ?_
 rintro e s5 l4
 rcases l4 with ⟨a0,a8,vr,rfl,f5,b5,b0⟩|⟨a0,rfl,f5,b5,hc⟩
 ·have b3:=j3.d1 (x:=(s.G,5,0)) a0 [(s.E,6,0),(s.H,5,0)]
  have g5:=a2.trans f5
  refine xe 23 (.tuple #[S1,.iface a8 (vr)]) ?_
  exact Lp ((Pf b4).trans b3) a0 g5 b0
 obtain⟨c4,m8⟩:∃ c,(Xm l (s.blocks.toNat+1) c3 (s.G,5,0)).1=c:=⟨_,rfl⟩
 rw[m8] at hc
 have k4:Vc (Xm l (s.blocks.toNat+1)) (Rm s.blocks.toNat) [(s.top,1,0),(s.details,3,0),(s.D,4,0),(s.G,5,0)] c4:=j3.more m8 a0
 have i4:=k4.b5
 rw[Ub] at i4
 have p0:phi c4≤30000000:=by have:=i4.2.2;simp only[C5,E4] at this;omega
 have o9:zer c4<s.blocks.toNat+1:=by have:=i4.2.1;omega
 have e8:=(i1.blk (e7.i a7.i) f3).q b5 Do
 refine xlv 32 (e8.a2 8 2) ?_
 refine xa 0 [V0 0,V0 0] 144 fun r4 r2 a6=>?_
 have f8:=a6.ne e8
 have e1:=a2.trans f5
 have n9:=a6.ge e1
 refine xsv 0 a6.blk [V0 s.E,V0 (-1)] fun q4 h7 m5=>?_
 refine xb 6 0 m5 ?_
 refine xb 1 1 m5 ?_
 have h9:=h7.A ((g3.q b5 Do).i a6.i) a6.blk Do
 have e0:=h7.A ((e3.q b5 Do).i a6.i) a6.blk Do
 have l2:=h7.j (Zb hc a6.i) a6.blk Do
 have a3:=h7.i (bln e1 a6.i) n9
 refine xc 0 ((Im (s.blocks.toNat+1) w.heap.size Bi b b6 br pi ni ci l g s.blocks.toNat) c4 s.E 6 _ ⟨hI.i a3,h9,e0,l2,i4.1,a3.size⟩ M0 M0 Do Do) ?_
 rintro e r8 j2
 rcases j2 with ⟨a0,a8,vr,rfl,e4,d1,b0⟩|⟨a0,rfl,e4,d1,hc⟩
 ·have b3:=k4.d1 (x:=(s.E,6,0)) a0 [(s.H,5,0)]
  have g1:=a3.trans e4
  refine xe 23 (.tuple #[S1,.iface a8 (vr)]) ?_
  exact Lp ((Pf b4).trans b3) a0 g1 b0
 obtain⟨c5,m0⟩:∃ c,(Xm l (s.blocks.toNat+1) c4 (s.E,6,0)).1=c:=⟨_,rfl⟩
 rw[m0] at hc
 have j9:Vc (Xm l (s.blocks.toNat+1)) (Rm s.blocks.toNat) [(s.top,1,0),(s.details,3,0),(s.D,4,0),(s.G,5,0),(s.E,6,0)] c5:=k4.more m0 a0
 have i6:=j9.b5
 rw[Ub] at i6
 have s2:phi c5≤30000000:=by have:=i6.2.2;simp only[C5,E4] at this;omega
 have r3:zer c5<s.blocks.toNat+1:=by have:=i6.2.1;omega
 have j8:=(h7.blk (e8.i a6.i) f8).q d1 Do
 refine xlv 32 (j8.a2 10 2) ?_
 refine xa 0 [V0 0,V0 0] 144 fun p1 s1 c0=>?_
 have d5:=a3.trans e4
 have o0:=c0.ge d5
 refine xsv 0 c0.blk [V0 s.H,V0 5] fun p6 i8 m7=>?_
 refine xb 6 0 m7 ?_
 refine xb 1 1 m7 ?_
 have i0:=i8.A ((h9.q d1 Do).i c0.i) c0.blk Do
 have d8:=i8.A ((e0.q d1 Do).i c0.i) c0.blk Do
 have k2:=i8.j (Zb hc c0.i) c0.blk Do
 have a1:=i8.i (bln d5 c0.i) o0
 refine xc 0 ((Im (s.blocks.toNat+1) w.heap.size Bi b b6 br pi ni ci l g s.blocks.toNat) c5 s.H 5 _ ⟨hI.i a1,i0,d8,k2,i6.1,a1.size⟩ M0 M0 Do Do) ?_
 rintro e p5 l3
 rcases l3 with ⟨a0,a8,vr,rfl,b9,f7,b0⟩|⟨a0,rfl,b9,f7,hc⟩
 ·have b3:=j9.d1 (x:=(s.H,5,0)) a0 []
  have g2:=a1.trans b9
  refine xe 23 (.tuple #[S1,.iface a8 (vr)]) ?_
  exact Lp ((Pf b4).trans b3) a0 g2 b0
 obtain⟨c6,n3⟩:∃ c,(Xm l (s.blocks.toNat+1) c5 (s.H,5,0)).1=c:=⟨_,rfl⟩
 rw[n3] at hc
 have j7:Vc (Xm l (s.blocks.toNat+1)) (Rm s.blocks.toNat) [(s.top,1,0),(s.details,3,0),(s.D,4,0),(s.G,5,0),(s.E,6,0),(s.H,5,0)] c6:=j9.more n3 a0
 have g6:=j7.b5
 rw[Ub] at g6
 have s0:phi c6≤30000000:=by have:=g6.2.2;simp only[C5,E4] at this;omega
 have q0:zer c6<s.blocks.toNat+1:=by have:=g6.2.1;omega
 have l0:=i0.q f7 Do
 refine xb 35 1 l0 ?_
 have g9:=d8.q f7 Do
 refine xc 0 (Zhg br g s.blocks.toNat w.heap.size c6 _ g9 hc (g6.1) M0) ?_
 rintro _ p9 ⟨_,rfl,j1,q9,d9,rfl,o2⟩
 have k1:=(a1.trans b9).size
 have h5:=Zg o2 k1
 have h3:=bln (a1.trans b9) j1
 refine xe 5 (.tuple #[.slice q9 s.blocks.toNat d9,.nilIface]) ?_
 have e9:=Pf (l:=l) b4
 exact cnts_ok (by rw[e9];exact j7.1) (by rw[e9];exact j7.2) g6.1 h3 h5
end
section
attribute [local irreducible] wpList wpAnyH Code.wp Oper.wp Go
variable {t u v:Int} {x k:Nat} {L:V6 Dv}
theorem Of(n:Nat):((range n).flatMap fun _:Nat=>([]:V6 Nat))=[]:=Y5
theorem dead_2:Bm 2 true:=⟨rfl,Do,Do⟩
theorem dead_3:Bm 3 true:=⟨rfl,Do,Do⟩
theorem dead_5:Bm 5 true:=⟨rfl,Do,Do⟩
theorem rng_swap{a n m:Nat}:(rng (a+n) m++rng a n).Perm (rng a (n+m)):=by
 rw[Ep];exact L7
end
section
attribute [local irreducible] wpList wpAnyH Code.wp Oper.wp Go
variable {t u v:Int} {x k:Nat} {L:V6 Dv}
theorem val_slot{v:Bl}{a b c:Nat}{no:Int}(h:Xn Xx v=0)(h2:Xq Xx v=[a,b,c]):Zct no 4 true v=((a:Int),7,0):=by
 unfold Zct;rw[V8 ⟨rfl,rfl⟩,h,V7 (fun q=>q rfl),h2];rfl
theorem slot_val{C:V6 (V6 Int)}{q i N:Nat}(hi:i<N)(h0:1≤q)(h1:q+i≤14399)(hL:(C.getD i []).length≤960)(no:Int):Zct no 4 true ((Xl C q N).getD i Zn).2.1=(((q+i:Nat):Int),7,0):=by
 rw[Gj hi];have h2:Yn (C.getD i [])≤960:=N0 (Mt _ _) hL;have h3:Xi (C.getD i [])≤960:=N0 (Nv _) hL;have e2:(Zfl C q i).2.1=slB (q+i,Yn (C.getD i []),Xi (C.getD i [])):=rfl;have e3:=Zm6 (x:=(q+i,Yn (C.getD i []),Xi (C.getD i []))) (by simp only;omega) h1 h2 h3;have e4:=Zkr (x:=(q+i,Yn (C.getD i []),Xi (C.getD i []))) (by simp only;omega) h1 h2 h3;rw[e2];exact val_slot e3 e4
theorem Zmf(q n:Nat):((range n).flatMap fun i=>[q+i])=rng q n:=by
 induction n with
 | zero=>rfl
 | succ n ih=>rw[B8,C7,ih,Ep];simp[rng]
end
section
attribute [local irreducible] wpList wpAnyH Code.wp Oper.wp Go
variable {t u v:Int} {x k:Nat} {L:V6 Dv}
theorem rng_one(a:Nat):rng a 1=[a]:=by simp[rng]
theorem rng_cons{a n:Nat}:((a+n)::rng a n).Perm (rng a (n+1)):=by
 rw[Ep,rng_one];exact(List.perm_append_singleton _ _).symm
end
section
attribute [local irreducible] wpList wpAnyH Code.wp Oper.wp Go
theorem Za8{B b:Nat}{l:Bl}(w:V1)(h:Bld B b l w)(hl:l.length+1≤100000000)(hBw:B≤w.heap.size) :
 C0 78 #[P0 b,.int .u8 32] w (BldP B b (l++[32]) .nilIface w):=bld_Byte 32 w h hl hBw
theorem txt_next{M:V6 Mp}{k:Nat}(h:k<M.length):((((((txt (M.take k)++Lib.itoa (M.getD k mpD).1)++[32])++Lib.itoa (M.getD k mpD).2.1)++[32])++Lib.itoa (M.getD k mpD).2.2)++[32])=txt (M.take (k+1)):=by
 rw[txt_take h];simp only[Zoj,txtN,A4]
theorem txt_lens{M:V6 Mp}{k:Nat}(hR:∀ m∈M,MpR m)(h:k<M.length)(hl:M.length≤100000):(txt (M.take k)).length≤6600000∧InI (M.getD k mpD).1∧InI (M.getD k mpD).2.1∧InI (M.getD k mpD).2.2∧(Lib.itoa (M.getD k mpD).1).length≤21∧(Lib.itoa (M.getD k mpD).2.1).length≤21∧(Lib.itoa (M.getD k mpD).2.2).length≤21:=by
 have a:=txt_len (M:=M.take k) (fun m hm=>hR m (M1 hm));rw[D8] at a;have e:M.getD k mpD=M[k]:=by simp[getD,h]
 obtain⟨h1,h2,h3⟩:=hR (M.getD k mpD) (by rw[e];exact F3 h);exact⟨M0,h1,h2,h3,Lib.itoa_length_le _ h1.1 h1.2,Lib.itoa_length_le _ h2.1 h2.2,Lib.itoa_length_le _ h3.1 h3.2⟩
theorem Ztk(p:O0)(c:Nat)(M:V6 Mp)(w:V1)(hI:ItT w)(h:Sts Cu w (.slice p M.length c) M)(hR:∀ m∈M,MpR m)(hf:M.length≤100000) :
 C0 30 #[.slice p M.length c] w (Ret (.string ⟨(txt M).toArray⟩) w):=by
 refine zin 33 Tryz.func30 ?_
 refine xa 7 [.pointer none,S1] 155 fun b1 W1 n1=>?_
 have g1:=n1.ge (B4 w)
 refine zl 11 33 (fun zm d3 V=>∃ (k:Nat),d3=[(2,.string ⟨#[]⟩),(3,P0 b1),(8,.slice p M.length c),(9,V0 (M.length:Int)),(10,V0 (k:Int))]∧zm=M.length-((k:Int)).toNat∧B3 w V∧Bld w.heap.size b1 (txt (M.take k)) V∧k≤M.length) ⟨0,rfl,rfl,n1.i,Bld.zero g1 n1.blk,A5 _⟩ ?_
 rintro _ _ W2 ⟨k,rfl,rfl,a1,a0,hk⟩ J2 d9 r2
 refine xid 6 ((k:Int)<(M.length:Int)) (fun d6=>?_) (fun d6=>?_)
 ·obtain⟨q0,q1,q2,q3,q4,q5,q6⟩:=txt_lens (k:=k) hR M0 hf
  refine xx 6 _ M.length k 3 (Sts.cell h Jv mpD (k:=k) (i:=0) M0 rfl).1 ?_
  refine xlv 0 (Sts.rp (k:=k) (h.i a1) Jv mpD M0 Do) ?_
  refine xa 0 [V0 0,V0 0,V0 0] 63 fun b4 W4 n4=>?_
  have g4:=n4.ge a1
  refine xsv 0 n4.blk [V0 ((M.getD k mpD).1),V0 ((M.getD k mpD).2.1),V0 ((M.getD k mpD).2.2)] fun W5 u5 k5=>?_
  refine xb 5 0 k5 ?_
  refine xb 1 1 k5 ?_
  refine xb 1 2 k5 ?_
  refine xbs 0 3 [V0 ((M.getD k mpD).1),V0 ((M.getD k mpD).2.1),V0 ((M.getD k mpD).2.2)] 3 fun b6 W6 n6=>?_
  have c6:=u5.i (bln a1 n4.i) g4
  refine xu 5 4 ?_
  refine xb 14 0 n6.blk ?_
  have a4:=bln c6 n6.i
  refine xr 6 (Zfw q1 _ (hI.i a4)) fun W7 c3=>?_
  have b9:=(((a0.i n4.i).q (Q1 (T:=[63]) u5 n4.blk Do) Do).i n6.i).i c3
  have b3:=bln a4 c3
  refine xc 0 (Zlf (Lib.itoa (M.getD k mpD).1) _ b9 (by first|omega|(simp only[A1];omega)|(simp only[A1,List.length_singleton];omega)) b3.size) ?_
  rintro _ W8 ⟨rfl,d4,d8,a0⟩
  have b0:=b3.trans d4
  refine xc 3 (Za8 _ a0 (by first|omega|(simp only[A1];omega)|(simp only[A1,List.length_singleton];omega)) b0.size) ?_
  rintro _ W9 ⟨rfl,d5,d2,a0⟩
  have a6:=((n6.blk.i c3).q d8 Do).q d2 Do
  refine xb 22 1 a6 ?_
  have b2:=b0.trans d5
  refine xr 6 (Zfw q2 _ (hI.i b2)) fun e6 a3=>?_
  have b7:=a0.i a3
  have a9:=bln b2 a3
  refine xc 0 (Zlf (Lib.itoa (M.getD k mpD).2.1) _ b7 (by first|omega|(simp only[A1];omega)|(simp only[A1,List.length_singleton];omega)) a9.size) ?_
  rintro _ e1 ⟨rfl,d1,c4,a0⟩
  have b8:=a9.trans d1
  refine xc 3 (Za8 _ a0 (by first|omega|(simp only[A1];omega)|(simp only[A1,List.length_singleton];omega)) b8.size) ?_
  rintro _ e4 ⟨rfl,c2,c5,a0⟩
  have c9:=((a6.i a3).q c4 Do).q c5 Do
  refine xb 22 2 c9 ?_
  have b5:=b8.trans c2
  refine xr 6 (Zfw q3 _ (hI.i b5)) fun e2 a5=>?_
  have a8:=a0.i a5
  have c1:=bln b5 a5
  refine xc 0 (Zlf (Lib.itoa (M.getD k mpD).2.2) _ a8 (by first|omega|(simp only[A1];omega)|(simp only[A1,List.length_singleton];omega)) c1.size) ?_
  rintro _ e5 ⟨rfl,c7,e0,a0⟩
  have a2:=c1.trans c7
  refine xc 3 (Za8 _ a0 (by first|omega|(simp only[A1];omega)|(simp only[A1,List.length_singleton];omega)) a2.size) ?_
  rintro _ e3 ⟨rfl,d0,d7,a0⟩
  refine xwm 22 ((k:Int)+1) (↑(k+1):Int) ?_
  have a7:=a2.trans d0
  exact ze 2 (d9 _ _ _ ⟨k+1,rfl,rfl,a7,(txt_next (M:=M) (k:=k) M0▸a0),M0⟩ M0)
 refine xc 7 (bld_End _ a0 a1.size) ?_
 rintro _ e7 ⟨rfl,c8⟩
 have c0:=a1.trans c8
 exact xe 4 (.string ⟨(txt (M.take k)).toArray⟩) ⟨by rw[B9 M0],c0⟩
end
end
section
open Go.RowKit Go.Extern.Stop Go.Stop Go.Extern
open Go.ChangeMaps (setBlock heap_setBlock_same heap_setBlock_other)
section
attribute [local irreducible] wpList wpAnyH Code.wp Oper.wp Go
structure KeyK{α:Type}[DecidableEq α](P:V4)(kt:V3)(mk:α→V2)(un:V2→α):Prop where
 inv:∀ a,un (mk a)=a
 d:∃ D,P.underlying kt=some D∧∀ a b,Instr.sameNow D (mk a) (mk b)=some (decide (a=b))
 ok:∀ (b:Bool) (a:α) (w:V1),(Instr.checkKey b 10000 kt (mk a)).run P w=.ok () w
section
variable {α:Type} {mk:α→V2} {un:V2→α}
def Zki(mk:α→V2)(kv:V6 (α×V2)):V6 (V2×V2):=kv.map fun p=>(mk p.1,p.2)
def Lx(mk:α→V2)(W:V1)(r:Nat)(kv:V6 (α×V2)):Prop :=
 ∃ es clock,W.heap[r]? = some (.map es clock)∧es.toList.map (fun e=>(e.key,e.val))=Zki mk kv∧(∀ x∈es.toList,x.born<clock)∧(es.toList.map (·.born)).Nodup
theorem Lx.lt{W:V1}{r:Nat}{kv:V6 (α×V2)}(h:Lx mk W r kv):r<W.heap.size:=by
 obtain⟨es,a0,h1,_⟩:=h;exact(Array.getElem?_eq_some_iff.1 h1).1
theorem Lx.kept{w W:V1}{r:Nat}{kv:V6 (α×V2)}(h:Lx mk w r kv)(hb:W.heap[r]? = w.heap[r]?):Lx mk W r kv:=by
 obtain⟨es,a0,h1,h2⟩:=h;exact⟨es,a0,hb.trans h1,h2⟩
theorem Lx.i{w W:V1}{r:Nat}{kv:V6 (α×V2)}(h:Lx mk w r kv)(hb:B3 w W):Lx mk W r kv:=h.kept (hb.block r h.lt)
theorem Lx.b7{w:V1}{r b:Nat}{kv:V6 (α×V2)}{cs:V6 V2}{t:V3}(h:Lx mk w r kv)(k:Blk w b cs t):r≠b:=fun e=>by
 subst e;obtain⟨es,a0,h1,_⟩:=h;have:w.heap[r]? = some (.cells cs.toArray t (0,0)):=k;rw[h1] at this;cases this
theorem Lx.a9{w:V1}{r base size n:Nat}{kv:V6 (α×V2)}{e:V3}{v:V2}{xs:V6 V2}(h:Lx mk w r kv)(k:w.ownsRow base e size v n xs):some r≠v.ownBlock:=fun q=>by
 rcases k.2 with ⟨h2,_⟩|⟨g,a2,a1,hv,hg,hh,_⟩
 ·subst h2;simp[Value.ownBlock] at q
 ·subst hv;simp only[Value.ownBlock,A0] at q;subst q;obtain⟨es,a0,h1,_⟩:=h;rw[h1] at hh;cases hh
theorem Lx.grown{w W:V1}{r base size n:Nat}{kv:V6 (α×V2)}{e:V3}{v:V2}{xs:V6 V2}(h:Lx mk w r kv)(hg:w.grownBy W v.ownBlock)(k:w.ownsRow base e size v n xs):Lx mk W r kv:=h.kept (hg.block r h.lt (h.a9 k))
theorem Lx.e3{w W:V1}{r b base size n c:Nat}{kv:V6 (α×V2)}{e:V3}{xs:V6 V2}(h:Lx mk w r kv)(u:Upd w b W)(k:w.ownsRow base e size (.slice (S3 b) n c) n xs):Lx mk W r kv:=h.kept (u.block r fun q=>h.a9 k (by simp[Value.ownBlock,q]))
theorem Lx.c6{w W:V1}{r b:Nat}{kv:V6 (α×V2)}{cs:V6 V2}{t:V3}(h:Lx mk w r kv)(u:Upd w b W)(k:Blk w b cs t):Lx mk W r kv:=h.kept (u.block r (h.b7 k))
theorem Lx.I{w W:V1}{r b:Nat}{kv:V6 (α×V2)}(h:Lx mk w r kv)(u:Upd w b W)(hn:r≠b):Lx mk W r kv:=h.kept (u.block r hn)
theorem own_obj{w W:V1}{r base size n:Nat}{e:V3}{v:V2}{xs:V6 V2}(k:w.ownsRow base e size v n xs)(h:∀ cs t f,w.heap[r]? ≠ some (.cells cs t f))(u:Upd w r W):W.ownsRow base e size v n xs:=u.O k fun j hj q=>by
 subst q;rcases k.2 with ⟨h2,_⟩|⟨g,a0,a1,hv,hg,hh,_⟩
 ·subst h2;simp[Value.ownBlock] at hj
 ·subst hv;simp only[Value.ownBlock,A0] at hj;subst hj;exact h _ _ _ hh
theorem blk_obj{w W:V1}{r b:Nat}{cs:V6 V2}{t:V3}(k:Blk w b cs t)(h:∀ cs t f,w.heap[r]? ≠ some (.cells cs t f))(u:Upd w r W):Blk W b cs t:=u.blk k (fun q=>by
 subst q;exact h cs.toArray t (0,0) k)
theorem Lx.j6{w:V1}{r:Nat}{kv:V6 (α×V2)}(h:Lx mk w r kv):∀ cs t f,w.heap[r]? ≠ some (.cells cs t f):=fun cs t f q=>by
 obtain⟨es,a0,h1,_⟩:=h;rw[h1] at q;cases q
structure NewMV(mk:α→V2)(w:V1)(r:Nat)(W:V1):Prop where
 at_:r=w.heap.size
 i:Below w.heap.size w W
 map:Lx mk W r []
theorem NewMV.ge{w W A:V1}{r:Nat}(h:NewMV mk w r W)(k:Below A.heap.size A w):A.heap.size≤r:=by have:=k.size;have:=h.at_;omega
theorem NewMV.i0(mk:α→V2)(w:V1):NewMV mk w w.heap.size (w.alloc (.map #[] 0)):=⟨rfl,blx _ _,#[],0,K4 w _,rfl,(fun _ h=>by cases h),List.Pairwise.nil⟩
def Bh[DecidableEq α]:V6 (α×V2)→α→Option V2
 | [],_=>none
 | p::r,k=>if k=p.1 then some p.2 else Bh r k
theorem Zsj[DecidableEq α]{kv:V6 (α×V2)}{k:α}(h:k∉kv.map fst):Bh kv k=none:=by
 induction kv with
 | nil=>rfl
 | cons p r ih =>
  simp only[D7,B6,not_or] at h;unfold Bh;rw[V7 h.1];exact ih h.2
theorem Zzi[DecidableEq α]{kv:V6 (α×V2)}{k:α}(h:k∈kv.map fst):∃ v,Bh kv k=some v∧(k,v)∈kv:=by
 induction kv with
 | nil=>cases h
 | cons p r ih =>
  unfold Bh;by_cases q:k=p.1
  ·rw[V8 q];exact⟨p.2,rfl,by rw[q];exact D6⟩
  ·rw[V7 q];obtain⟨v,h1,h2⟩:=ih (by simpa [q] using h);exact⟨v,h1,E1 _ h2⟩
theorem Zjh[DecidableEq α]{D:TypeDesc}(hd:∀ a b:α,Instr.sameNow D (mk a) (mk b)=some (decide (a=b)))(k:α):∀ (es:V6 MapEntry) (kv:V6 (α×V2)) (i:Nat),es.map (fun e=>(e.key,e.val))=Zki mk kv→∃ j,Instr.findNow D (mk k) es i=some ((Bh kv k).map fun v=>(j,v))
 | [],kv,i,h=>by
  have:kv=[]:=by simpa [Zki] using h.symm
  subst this;exact⟨0,rfl⟩
 | e::es,[],i,h=>by simp[Zki] at h
 | e::es,p::kv,i,h=>by
  simp only[Zki,D7,I5,D9] at h;obtain⟨⟨h1,h2⟩,h3⟩:=h;by_cases q:k=p.1
  ·refine⟨i,?_⟩;simp[Instr.findNow,h1,h2,hd,Bh,q]
  ·obtain⟨j,ih⟩:=Zjh hd k es kv (i+1) h3;refine⟨j,?_⟩;simp[Instr.findNow,h1,hd,Bh,q,ih]
theorem Co[DecidableEq α]{P:V4}{kt:V3}(K:KeyK P kt mk un)(k:α){es:V6 MapEntry}{kv:V6 (α×V2)}(h:es.map (fun e=>(e.key,e.val))=Zki mk kv)(w:V1) :
 ∃ j,(Instr.findKey kt (mk k) es).run P w=.ok ((Bh kv k).map fun v=>(j,v)) w:=by
 obtain⟨D,hD,hd⟩:=K.d
 obtain⟨j,hj⟩:=Zjh hd k es kv 0 h
 refine⟨j,?_⟩
 simp only[Instr.findKey,C9,run_underlying hD,E0,hj]
 rfl
variable {P:V4} {w:V1}
theorem Zzv[DecidableEq α]{t kt et:V3}{r:Nat}{kv:V6 (α×V2)}(K:KeyK P kt mk un)(ht:P.underlying t=some (.map kt et))(h:Lx mk w r kv){k:α}{v:V2}(hv:Bh kv k=some v)(ok:Bool) :
 (Instr.lookup t (.map (some r)) (mk k) ok).run P w=.ok (if ok then .tuple #[v,.bool true] else v) w:=by
 obtain⟨es,a0,h1,h2,_⟩:=h
 obtain⟨j,hf⟩:=Co K k h2 w
 rw[hv] at hf
 cases ok<;>simp[Instr.lookup,run_underlying ht,MapKept.run_getObj_map h1,K.ok,hf,Result.andThen]
theorem Zze[DecidableEq α]{t kt et:V3}{r:Nat}{kv:V6 (α×V2)}(K:KeyK P kt mk un)(ht:P.underlying t=some (.map kt et))(h:Lx mk w r kv){k:α}{z:V2}(hz:(zeroValue et).run P w=.ok z w)(hv:Bh kv k=none)(ok:Bool) :
 (Instr.lookup t (.map (some r)) (mk k) ok).run P w=.ok (if ok then .tuple #[z,.bool false] else z) w:=by
 obtain⟨es,a0,h1,h2,_⟩:=h
 obtain⟨j,hf⟩:=Co K k h2 w
 rw[hv] at hf
 cases ok<;>simp[Instr.lookup,run_underlying ht,MapKept.run_getObj_map h1,K.ok,hf,hz,Result.andThen]
theorem Zlk[DecidableEq α]{t kt et:V3}{r:Nat}{kv:V6 (α×V2)}(K:KeyK P kt mk un)(ht:P.underlying t=some (.map kt et))(h:Lx mk w r kv){k:α}(v:V2)(hn:Bh kv k=none) :
 ∃ W,(Instr.mapUpdate t (.map (some r)) (mk k) v).run P w=.ok () W∧Upd w r W∧Lx mk W r (kv++[(k,v)]):=by
 obtain⟨es,a0,h1,h2,h3,h4⟩:=h
 obtain⟨j,hf⟩:=Co K k h2 w
 rw[hn] at hf
 refine⟨setBlock w r (.map (es.push ⟨mk k,v,a0⟩) (a0+1)),?_,Cd h1 _,_,_,heap_setBlock_same h1 _,?_,?_,?_⟩
 ·simp[Instr.mapUpdate,run_underlying ht,MapKept.run_getObj_map h1,K.ok,hf,MapKept.run_setObj_map _ h1,Result.andThen,setBlock]
 ·rw[Array.toList_push,A6,h2];simp[Zki]
 ·intro x hx
  rw[Array.toList_push,List.mem_append] at hx
  rcases hx with hx|hx
  ·exact Nat.lt_succ_of_lt (h3 x hx)
  ·obtain rfl:=D0.1 hx
   exact Nat.lt_succ_self a0
 ·rw[Array.toList_push,A6,List.nodup_append]
  refine⟨h4,Y5,fun a ha b hb q=>?_⟩
  obtain⟨x,hx,rfl⟩:=List.mem_map.1 ha
  simp at hb
  have:=h3 x hx
  omega
end
inductive Zmv
 | mm (t:V3)
 | lk (t:V3) (m k:V2) (ok:Bool)
 | mu (t:V3) (m k v:V2)
 | rg (t:V3) (m:V2)
 | nx (i:V2)
 | en (i:V2)
noncomputable def zmvf (n:Nat) (kv:V6 (Nat×V2)) (o:Oper):Option Zmv:=match o.op with
 | .makeMap t none=>some (.mm t)
 | .lookup t x y ok=>some (.lk t (zev n kv x) (zev n kv y) ok)
 | .mapUpdate t x y z=>some (.mu t (zev n kv x) (zev n kv y) (zev n kv z))
 | .range t x=>some (.rg t (zev n kv x))
 | .next x false=>some (.nx (zev n kv x))
 | .entry x=>some (.en (zev n kv x))
 | _=>none
noncomputable def zmv (s:Zs):Option Zmv:=match zop s with
 | some o=>zmvf s.n s.kv o
 | none=>none
def ZmvOk(a:Act)(o:Oper):Zmv→Prop
 | .mm t=>o.op=.makeMap t none
 | .lk t m k ok=>∃ x y,o.op=.lookup t x y ok∧a.eval x=m∧a.eval y=k
 | .mu t m k v=>∃ x y z,o.op=.mapUpdate t x y z∧a.eval x=m∧a.eval y=k∧a.eval z=v
 | .rg t m=>∃ x,o.op=.range t x∧a.eval x=m
 | .nx i=>∃ x,o.op=.next x false∧a.eval x=i
 | .en i=>∃ x,o.op=.entry x∧a.eval x=i
theorem Zfy{n:Nat}{kv:V6 (Nat×V2)}{o:Oper}{k:Zmv}(h:zmvf n kv o=some k):ZmvOk (zact n kv) o k:=by
 unfold zmvf at h;split at h
 ·rename_i a0;cases h;exact a0
 ·rename_i a0;cases h;exact⟨_,_,a0,by rw[Zu],by rw[Zu]⟩
 ·rename_i a0;cases h;exact⟨_,_,_,a0,by rw[Zu],by rw[Zu],by rw[Zu]⟩
 ·rename_i a0;cases h;exact⟨_,a0,by rw[Zu]⟩
 ·rename_i a0;cases h;exact⟨_,a0,by rw[Zu]⟩
 ·rename_i a0;cases h;exact⟨_,a0,by rw[Zu]⟩
 ·cases h
section
variable {P:V4} {fn:Func} {R:V5→V1→Prop} {w:V1} {s:Zs} {α:Type} {mk:α→V2} {un:V2→α}
theorem xmmV(mk:α→V2)(q:Zq)(t:V3)(k:∀ r W,NewMV mk w r W→Go P fn R (znx (zq P q s) (.map (some r))) W)(h:zmv (zq P q s)=some (.mm t):=by kernel_rfl)(hz:Uh (zq P q s)=true:=by kernel_rfl):Go P fn R s w:=by
 obtain⟨o,ho,h⟩:=Qq h;have a0:o.op=.makeMap t none:=Zfy h;exact Zw q s (zgo ho (Ve hz) fun K hK=>Uw (v:=.map (some w.heap.size)) (w':=w.alloc (.map #[] 0)) (by simp[execOp,a0,Instr.makeMap,newObj,Sem.run,Result.andThen]) (hK _ _ (Vm hz) (k _ _ (NewMV.i0 mk w))))
theorem xlkS[DecidableEq α](q:Zq){t kt et:V3}{r:Nat}{kv:V6 (α×V2)}(k:α)(ok:Bool){v:V2}(ht:P.underlying t=some (.map kt et))(K:KeyK P kt mk un)(hM:Lx mk w r kv)(hv:Bh kv k=some v)(g:Go P fn R (znx (zq P q s) (if ok then .tuple #[v,.bool true] else v)) w)
 (h:zmv (zq P q s)=some (.lk t (.map (some r)) (mk k) ok):=by kernel_rfl) (hz:Dq (zq P q s)=true:=by kernel_rfl):Go P fn R s w:=by
 obtain⟨o,ho,h⟩:=Qq h
 obtain⟨x,y,h1,h2,h3⟩:=Zfy h
 exact Zw q s (Zf2 ho (fun V hV=>by
  have hr:=Zzv (P:=P) K ht (hM.i (Gk hz hV)) hv ok;simp only[execOp,h1,h2,h3,C9,hr,Result.andThen];rfl) g)
theorem xlkN[DecidableEq α](q:Zq){t kt et:V3}{r:Nat}{kv:V6 (α×V2)}(k:α)(ok:Bool){z:V2}(ht:P.underlying t=some (.map kt et))(K:KeyK P kt mk un)(hz0:∀ V,(zeroValue et).run P V=.ok z V)(hM:Lx mk w r kv)(hv:Bh kv k=none)(g:Go P fn R (znx (zq P q s) (if ok then .tuple #[z,.bool false] else z)) w)
 (h:zmv (zq P q s)=some (.lk t (.map (some r)) (mk k) ok):=by kernel_rfl) (hz:Dq (zq P q s)=true:=by kernel_rfl):Go P fn R s w:=by
 obtain⟨o,ho,h⟩:=Qq h
 obtain⟨x,y,h1,h2,h3⟩:=Zfy h
 exact Zw q s (Zf2 ho (fun V hV=>by
  have hr:=Zze (P:=P) K ht (hM.i (Gk hz hV)) (hz0 V) hv ok;simp only[execOp,h1,h2,h3,C9,hr,Result.andThen];rfl) g)
theorem xmuV[DecidableEq α](q:Zq){t kt et:V3}{r:Nat}{kv:V6 (α×V2)}(k:α)(v:V2)(ht:P.underlying t=some (.map kt et))(K:KeyK P kt mk un)(hM:Lx mk w r kv)(hn:Bh kv k=none)(g:∀ W,Upd w r W→Lx mk W r (kv++[(k,v)])→Go P fn R (znx (zq P q s) undef) W)
 (h:zmv (zq P q s)=some (.mu t (.map (some r)) (mk k) v):=by kernel_rfl) (hz:Uh (zq P q s)=true:=by kernel_rfl):Go P fn R s w:=by
 obtain⟨o,ho,h⟩:=Qq h
 obtain⟨x,y,z,h1,h2,h3,h4⟩:=Zfy h
 obtain⟨W,hr,hu,hm⟩:=Zlk (P:=P) K ht hM v hn
 exact Zw q s (zgo ho (Ve hz) fun K hK=>Zv7 (w':=W) (by simp[execOp,h1,h2,h3,h4,hr,Result.andThen]) (hK _ _ (Vm hz) (g W hu hm)))
end
end
end
section
open Go.RowKit Go.Extern.Stop Go.Stop Go.Extern
section
attribute [local irreducible] wpList wpAnyH Code.wp Oper.wp Go
def shN (L:V6 Dv):V6 Nat:=Ky (replicate L.length 0) (owL L)
theorem Nc(L:V6 Dv):(shN L).length=L.length:=by unfold shN;rw[Uc,B7]
theorem Zmr(L:V6 Dv):∀ b∈owL L,b<L.length:=fun b hb=>by
 obtain⟨i,hi,rfl⟩:=List.mem_map.1 hb;have hi:=A7.1 hi;have:=(Ng hi).1;omega
theorem Zwc(L:V6 Dv)(i:Nat):(shN L).getD i 0=(owL L).count i:=by
 unfold shN;rw[Pe _ _ (fun b hb=>by rw[B7];exact Zmr L b hb)];have:(replicate L.length 0).getD i 0=0:=by simp[getD,L1];split<;>rfl
 omega
theorem Zfk{L:V6 Dv}{i:Nat}(h:i<L.length):Xz L i=i↔(shN L).getD i 0≠0:=by
 rw[Zwc];constructor
 ·intro q;have:i∈owL L:=List.mem_map.2 ⟨i,A7.2 h,q⟩;exact Nat.ne_of_gt (List.count_pos_iff.2 this)
 ·intro q;have hm:=List.count_pos_iff.1 (Nat.pos_of_ne_zero q);obtain⟨j,hj,e⟩:=List.mem_map.1 hm;have hj:=A7.1 hj;rw[←e];exact Pt hj
theorem Zyt(L:V6 Dv):(shN L).sum=L.length:=by
 have h:∀ (S cs:V6 Nat),(∀ b∈S,b<cs.length)→(Ky cs S).sum=cs.sum+S.length:=by
  intro S;induction S with
  | nil=>intro cs _;rfl
  | cons b S ih =>
   intro cs hb;have h1:=hb b D6;rw[Me,ih _ (fun x hx=>by rw[Vv];exact hb x (E1 _ hx)),Rf M0 M0,C5];omega
 unfold shN;rw[h _ _ (fun b hb=>by rw[B7];exact Zmr L b hb),Zgl];simp
def twT (L:V6 Dv)(i:Nat):V6 Kw:=((range i).filter fun k=>Xz L k==k).map fun k=>(2,Up (L.getD k dvD).2)
theorem So{L:V6 Dv}{i:Nat}(h:Xz L i=i):twT L (i+1)=twT L i++[(2,Up (L.getD i dvD).2)]:=by
 unfold twT;rw[B8,List.filter_append,A6];simp[h]
theorem Lr{L:V6 Dv}{i:Nat}(h:Xz L i≠i):twT L (i+1)=twT L i:=by
 unfold twT;rw[B8,List.filter_append,A6];simp[h]
def twN (L:V6 Dv)(i:Nat):Nat:=Xr (twT L i)
theorem Wz{L:V6 Dv}{i:Nat}(h:Xz L i=i):twN L (i+1)=twN L i+Zy 2 (L.getD i dvD).2.length:=by
 unfold twN;rw[So h];have e:Xr (twT L i++[(2,Up (L.getD i dvD).2)])=Xr (twT L i)+Zy 2 (Up (L.getD i dvD).2).length:=Vo _ _;rw[e,Jo]
theorem Zbj{L:V6 Dv}{i:Nat}(h:Xz L i≠i):twN L (i+1)=twN L i:=by unfold twN;rw[Lr h]
theorem Zn2(L:V6 Dv)(i:Nat):twN L i≤twN L (i+1):=by
 by_cases h:Xz L i=i
 ·rw[Wz h];omega
 ·rw[Zbj h];exact At _
theorem Je(L:V6 Dv){i j:Nat}(h:i≤j):twN L i≤twN L j:=by
 induction j with
 | zero =>
  obtain rfl:i=0:=M0;exact At _
 | succ j ih =>
   by_cases e:i=j+1
   ·rw[e];exact At _
   ·exact N0 (ih M0) (Zn2 L j)
def twR (L:V6 Dv)(i:Nat):Nat:=twN L (Xz L i+1)
theorem Zkp{L:V6 Dv}{i:Nat}(h:Xz L i=i):twR L i=twN L (i+1):=by unfold twR;rw[h]
theorem twR_of{L:V6 Dv}{i:Nat}(h:i<L.length):twR L i=twR L (Xz L i):=by unfold twR;rw[Pt h]
theorem Ob{L:V6 Dv}{i:Nat}(h:i<L.length):1≤twR L i∧twR L i≤twN L (i+1)∧twN L (Xz L i)<twR L i:=by
 have a:=Wz (Pt h);have b:=Qf 2 (L.getD (Xz L i) dvD).2.length;have c:=Je L (show Xz L i+1≤i+1 by have:=(Ng h).1;omega);unfold twR;omega
def rcF (L:V6 Dv)(b:Nat):Nat:=((range L.length).map (twR L)).count b
theorem Zuj{L:V6 Dv}{b:Nat}(h:rcF L b≠0):∃ j,j<L.length∧twR L j=b:=by
 obtain⟨j,hj,e⟩:=List.mem_map.1 (List.count_pos_iff.1 (Nat.pos_of_ne_zero h));exact⟨j,A7.1 hj,e⟩
theorem Nk{L:V6 Dv}{b:Nat}(h:b=0∨twN L L.length<b):rcF L b=0:=by
 rcases H8 (rcF L b) with q|q
 ·exact q
 ·obtain⟨j,hj,rfl⟩:=Zuj (Nat.ne_of_gt q);have a:=Ob hj;have c:=Je L (show j+1≤L.length by omega);omega
theorem Zv0{L:V6 Dv}{i b:Nat}(hi:i<L.length)(ho:Xz L i=i)(h1:twN L i<b)(h2:b<twN L (i+1)):rcF L b=0:=by
 rcases H8 (rcF L b) with q|q
 ·exact q
 ·obtain⟨j,hj,rfl⟩:=Zuj (Nat.ne_of_gt q);rcases F0 (Xz L j) i with q|q
  ·have:=Je L (show Xz L j+1≤i by omega);unfold twR at h1;omega
  ·have:=Je L (show i+1≤Xz L j+1 by omega);unfold twR at h2;omega
theorem twR_inj{L:V6 Dv}{i j:Nat}(hi:i<L.length)(ho:Xz L i=i)(hj:j<L.length):twR L j=twN L (i+1)↔Xz L j=i:=by
 constructor
 ·intro h;have a:=Ob hj;have b:=Wz ho;have c:=Qf 2 (L.getD i dvD).2.length;rcases Nat.lt_trichotomy (Xz L j) i with q|q|q
  ·have:=Je L (show Xz L j+1≤i by omega);unfold twR at h;omega
  ·exact q
  ·have:=Je L (show i+1≤Xz L j by omega);omega
 ·intro h;unfold twR;rw[h]
theorem Zv6{L:V6 Dv}{i:Nat}(hi:i<L.length)(ho:Xz L i=i):rcF L (twN L (i+1))=(shN L).getD i 0:=by
 rw[Zwc];unfold rcF owL;rw[List.count_eq_countP,List.count_eq_countP,List.countP_map,List.countP_map];refine List.countP_congr fun j hj=>?_;have:=twR_inj hi ho (A7.1 hj);simpa using this
def Zlt(L:V6 Dv)(k i:Nat):V6 Int:=(range k).map fun b=>if b≤twN L i then(rcF L b:Int) else 0
theorem cntT_0(L:V6 Dv)(k:Nat):Zlt L k 0=Zfh 0 k:=by
 unfold Zlt Zfh;refine F9 fun b _=>?_;rw[V7 (Nat.not_lt_zero b)];by_cases h:b≤twN L 0
 ·rw[V8 h,Nk (.inl (by have:twN L 0=0:=rfl;omega))];rfl
 ·rw[V7 h]
theorem Nd{L:V6 Dv}{k i:Nat}(h:Xz L i≠i):Zlt L k (i+1)=Zlt L k i:=by unfold Zlt;rw[Zbj h]
theorem Zm0{L:V6 Dv}{k i:Nat}(hi:i<L.length)(h:Xz L i=i)(hk:twN L (i+1)<k):((Zlt L k i).map V0).set (twN L (i+1)) (V0 ((shN L).getD i 0:Int))=(Zlt L k (i+1)).map V0:=by
 have hn:=Wz h;have hp:=Qf 2 (L.getD i dvD).2.length;apply H3;intro b;unfold Zlt;rw[List.getElem?_set];by_cases e:twN L (i+1)=b
 ·subst e;rw[V8 rfl,V8 (by simp;exact hk)];simp only[C3,C1 hk,D3];rw[V8 (At _),Zv6 hi h]
 ·rw[V7 e];simp only[C3];rcases F0 b k with q|q
  ·rw[C1 q];simp only[D3];congr 2;by_cases q1:b≤twN L i
   ·rw[V8 q1,V8 M0]
   ·rw[V7 q1];by_cases q2:b≤twN L (i+1)
    ·rw[V8 q2,Zv0 hi h M0 M0];rfl
    ·rw[V7 q2]
  ·rw[C4 (by simpa using q)];rfl
def Bo(L:V6 Dv)(m k:Nat):V6 Int:=(range k).map fun b=>if b<m then max (rcF L b:Int) 1 else(rcF L b:Int)
theorem Kj(L:V6 Dv)(m k:Nat):(Bo L m k).length=k:=by simp[Bo]
theorem Gx{L:V6 Dv}{m k b:Nat}(h:b<k):(Bo L m k).getD b 0=if b<m then max (rcF L b:Int) 1 else(rcF L b:Int):=by simp[Bo,getD,C1 h]
theorem cntM_0(L:V6 Dv)(k:Nat):Zlt L k L.length=Bo L 0 k:=by
 unfold Zlt Bo;refine F9 fun b _=>?_;rw[V7 (Nat.not_lt_zero b)];by_cases h:b≤twN L L.length
 ·rw[V8 h]
 ·rw[V7 h,Nk (.inr M0)];rfl
theorem cntM_set{L:V6 Dv}{m k:Nat}(h:m<k):((Bo L m k).map V0).set m (V0 (max (rcF L m:Int) 1))=(Bo L (m+1) k).map V0:=by
 apply H3;intro b;unfold Bo;rw[List.getElem?_set];by_cases e:m=b
 ·subst e;rw[V8 rfl,V8 (by simp;exact h)];simp only[C3,C1 h,D3];rw[V8 (Nat.lt_succ_self _)]
 ·rw[V7 e];simp only[C3];rcases F0 b k with q|q
  ·rw[C1 q];simp only[D3];congr 2;by_cases q1:b<m
   ·rw[V8 q1,V8 M0]
   ·rw[V7 q1,V7 M0]
  ·rw[C4 (by simpa using q)];rfl
theorem rcF_le(L:V6 Dv)(b:Nat):rcF L b≤L.length:=by
 have:=List.count_le_length (a:=b) (l:=(range L.length).map (twR L));rw[A3,List.length_range] at this;exact this
theorem Zys{L:V6 Dv}{m k b:Nat}:0≤(Bo L m k).getD b 0∧(Bo L m k).getD b 0≤max (L.length:Int) 1:=by
 rcases F0 b k with h|h
 ·rw[Gx h];have:=rcF_le L b;split<;>omega
 ·have:(Bo L m k).getD b 0=0:=by simp[getD,C4 (show(Bo L m k).length≤b by rw[Kj];exact h)]
  omega
theorem Zdb{L:V6 Dv}{m k:Nat}(hk:k≤65536)(hl:L.length≤4096):Jn (Bo L m k)=0:=by
 unfold Jn;rw[Kj,V7 M0,V8];intro b _;have:=Zys (L:=L) (m:=m) (k:=k) (b:=b);unfold Ph;omega
theorem Zg6{L:V6 Dv}{m k:Nat}(hl:L.length≤4096)(hm:twN L L.length<m):Zbe (Bo L m k) (m:Int):=fun b hb=>by
 rw[Kj] at hb;refine⟨fun q=>?_,by have:=Zys (L:=L) (m:=m) (k:=k) (b:=b);omega⟩;rw[Gx hb,V7 M0,Nk (.inr M0)];rfl
def Lv(L:V6 Dv):Nat:=Gd (shN L) L.length
theorem ov_tw(L:V6 Dv)(m k:Nat)(hm:twN L L.length<m):∀ i,i≤L.length→twN L i+1≤k→(Zp (Bo L m k) (twN L i+1)).length=Gd (shN L) i
 | 0,_,hk=>by
  have e:twN L 0=0:=rfl;rw[e] at hk ⊢;have h0:(Bo L m k).getD 0 0=1:=by
   rw[Gx M0,Nk (.inl rfl),V8 M0];rfl
  rw[Wc (by rw[h0];decide)];rfl
 | i+1,hi,hk=>by
  have hs:=Zn2 L i;have ih:=ov_tw L m k hm i M0 M0;have hT:=Je L (show i+1≤L.length from hi);rw[Pd (by rw[Nc];omega)];by_cases ho:Xz L i=i
  ·have hn:=Wz ho;have hp:=Qf 2 (L.getD i dvD).2.length;have a0:∀ d,twN L i+1+d≤twN L (i+1)→(Zp (Bo L m k) (twN L i+1+d)).length=Gd (shN L) i:=by
    intro d;induction d with
    | zero=>intro _;exact ih
    | succ d ihd =>
     intro hd;rw[show twN L i+1+(d+1)=(twN L i+1+d)+1 from rfl,Wc ?_]
     ·exact ihd M0
     ·rw[Gx M0,Zv0 M0 ho M0 M0];split<;>omega
   have h1:=a0 (twN L (i+1)-(twN L i+1)) M0;rw[show twN L i+1+(twN L (i+1)-(twN L i+1))=twN L (i+1) by omega] at h1;have hg:(Bo L m k).getD (twN L (i+1)) 0=max ((shN L).getD i 0:Int) 1:=(by rw[Gx M0,Zv6 M0 ho,V8 M0]);by_cases q:3≤(shN L).getD i 0
   ·rw[Mf (by rw[hg];omega),A1,h1,V8 q];rfl
   ·rw[Wc (by rw[hg];omega),h1,V7 q,G4]
  ·rw[Zbj ho,ih,V7 (by have:=mt (Zfk M0).2 ho;omega),G4]
theorem over_tw{L:V6 Dv}{m k:Nat}(hm:twN L L.length<m)(hk:twN L L.length<k):(Zp (Bo L m k) (Bo L m k).length).length=Lv L:=by
 rw[Kj];have h0:=ov_tw L m k hm L.length (At _) M0;have a0:∀ d,twN L L.length+1+d≤k→(Zp (Bo L m k) (twN L L.length+1+d)).length=Lv L:=by
  intro d;induction d with
  | zero=>intro _;exact h0
  | succ d ih =>
   intro hd;rw[show twN L L.length+1+(d+1)=(twN L L.length+1+d)+1 from rfl,Wc ?_]
   ·exact ih M0
   ·rw[Gx M0,Nk (.inr M0)];split<;>decide
 have:=a0 (k-(twN L L.length+1)) M0;rw[show twN L L.length+1+(k-(twN L L.length+1))=k by omega] at this;exact this
theorem Zon(L:V6 Dv):3*Lv L≤L.length:=by
 have:=Aw (shN L) L.length (by rw[Nc];exact At _);rw[B9 (by rw[Nc];exact At _),Zyt] at this;exact this
def Mn(L:V6 Dv):Nat→Nat
 | 0=>0
 | i+1=>Mn L i+if Xz L i=i then 0 else Zy 2 (L.getD i dvD).2.length
theorem Zy0(L:V6 Dv):∀ i,i≤L.length→twN L i+Mn L i=Cf (L.take i)
 | 0,_=>rfl
 | i+1,h=>by
  have ih:=Zy0 L i M0;rw[Zrt M0,Mn,←ih];by_cases ho:Xz L i=i
  ·rw[Wz ho,V8 ho];omega
  ·rw[Zbj ho,V7 ho];omega
theorem off_le(L:V6 Dv){i:Nat}(h:i≤L.length):Mn L i≤Cf L:=by
 have a:=Zy0 L i h;have e:L=L.take i++L.drop i:=(G9 i L).symm;have:Cf (L.take i)≤Cf L:=by
  conv=>rhs;rw[e]
  unfold Cf;rw[A6,E8];omega
 omega
def Zsr(x:Nat)(L:V6 Dv):Nat:=Cq x L-Mn L L.length+1+Zy 5 (Lv L)
def Ma(x:Nat)(L:V6 Dv):Nat:=Zkc (Zsr x L)
theorem Ze0(x:Nat)(L:V6 Dv):1+Mn L L.length≤Cq x L:=by
 have:=off_le L (At L.length);unfold Cq;omega
def G1 (L:V6 Dv):V6 Kw:=twT L L.length++[(1,Wd L (twR L))]
def G2 (L:V6 Dv):V6 Kw:=G1 L++[(3,Po L (Gh L))]
theorem Zv8(L:V6 Dv):Xr (G2 L)=twN L L.length+Zy 1 L.length+Zy 3 L.length:=by
 have e1:Xr (G1 L)=Xr (twT L L.length)+Zy 1 (Wd L (twR L)).length:=Vo _ _;have e2:Xr (G2 L)=Xr (G1 L)+Zy 3 (Po L (Gh L)).length:=Vo _ _;rw[Yw] at e1;rw[Kr] at e2;unfold twN;omega
theorem Zy2(L:V6 Dv):twN L L.length+1≤Xr (G1 L)∧Xr (G1 L)+1≤Xr (G2 L):=by
 have e1:Xr (G1 L)=Xr (twT L L.length)+Km (1,Wd L (twR L)):=Vo _ _;have e2:Xr (G2 L)=Xr (G1 L)+Km (3,Po L (Gh L)):=Vo _ _;have:=Bt (1,Wd L (twR L));have:=Bt (3,Po L (Gh L));unfold twN;omega
def twK (x:Nat)(L:V6 Dv):Nat:=Xr (G2 L)+Qk (Xv x L)
theorem Zay(x:Nat)(L:V6 Dv):Zsr x L=twK x L+2+Zy 5 (Lv L):=by
 have h:=Zv8 L;have h2:=Om x L;have h3:=Zy0 L L.length (At _);rw[B9 (At _)] at h3;have h4:=Ze0 x L;unfold Zsr twK Qk;rw[h2,Ym];unfold Cq at h4 ⊢;omega
def mkS (l:Bl):V2:=.string ⟨l.toArray⟩
def unS:V2→Bl
 | .string a=>a.data.toList
 | _=>[]
theorem Zud{P:V4}{kt:V3}(hk:P.underlying kt=some .string)(b:Bool)(a:Bl)(n:Nat)(w:V1):(Instr.checkKey b (n+1) kt (mkS a)).run P w=.ok () w:=by
 simp only[Instr.checkKey,C9,run_underlying hk,E0];rfl
theorem keyS{P:V4}{kt:V3}(hk:P.underlying kt=some .string):KeyK P kt mkS unS where
 inv:=fun a=>by simp[unS,mkS]
 d:=⟨_,hk,fun a b=>by
  show some (a.toArray==b.toArray)=_;congr 1;have:(a==b)=decide (a=b):=by by_cases e:a=b<;>simp[e]
  simpa using this⟩
 ok:=fun b a w=>Zud hk b a 9999 w
def knV (L:V6 Dv)(i:Nat):V6 (Bl×V2):=(Zb2 L i).map fun x=>(x.1,V0 (x.2:Int))
theorem knV_yes{L:V6 Dv}{i:Nat}(h:Xz L i=i):knV L i++[(txt (L.getD i dvD).2,V0 (i:Int))]=knV L (i+1):=by
 unfold knV;rw[Og,V8 h,A6];rfl
theorem knV_no{L:V6 Dv}{i:Nat}(h:Xz L i≠i):knV L i=knV L (i+1):=by unfold knV;rw[Og,V7 h]
theorem Zzx{L:V6 Dv}{i:Nat}{t:Bl}:t∈(knV L i).map fst↔∃ k,k<i∧Xz L k=k∧txt (L.getD k dvD).2=t:=by
 unfold knV Zb2;simp only[L5,List.mem_map,List.mem_filter,A7,Function.comp_apply,beq_iff_eq];constructor
 ·rintro⟨k,⟨h1,h2⟩,h3⟩;exact⟨k,h1,h2,h3⟩
 ·rintro⟨k,h1,h2,h3⟩;exact⟨k,⟨h1,h2⟩,h3⟩
theorem Zxm{L:V6 Dv}{i:Nat}(hi:i<L.length)(h:Xz L i=i):Bh (knV L i) (txt (L.getD i dvD).2)=none:=Zsj fun q=>by
 obtain⟨k,h1,h2,h3⟩:=Zzx.1 q;have h4:=Zj9 h3;exact Zfn (by rw[h];exact h1) h4
theorem Zlc{L:V6 Dv}{i j:Nat}(hi:i<L.length)(h:Xz L i<j):Bh (knV L j) (txt (L.getD i dvD).2)=some (V0 (Xz L i:Int)):=by
 have hm:txt (L.getD i dvD).2∈(knV L j).map fst:=Zzx.2 ⟨Xz L i,h,Pt hi,by rw[(Ng hi).2]⟩;obtain⟨v,h1,h2⟩:=Zzi hm;rw[h1];unfold knV Zb2 at h2;simp only[L5,List.mem_map,List.mem_filter,A7,Function.comp_apply,beq_iff_eq,D9] at h2;obtain⟨k,⟨_,h3⟩,h4,rfl⟩:=h2;have h5:=Zj9 h4;have hk:Xz L k=Xz L i:=by
  refine Zg0 hi ?_ fun q hq=>?_
  ·have e:(L.getD (Xz L k) dvD).2=(L.getD k dvD).2:=(by rw[h3]);rw[e,h5]
  ·have:=Zfn hq;rw[h5] at this;exact this
 rw[←hk,h3]
theorem Zzb{L:V6 Dv}{i:Nat}:((range i).map (Xz L)).map nv++[V0 (↑(Xz L i):Int)]=((range (i+1)).map (Xz L)).map nv:=by
 rw[B8,A6,A6];rfl
theorem knV_0(L:V6 Dv):knV L 0=[]:=rfl
theorem Ed(p:O0)(c n:Nat)(t u v x:Int)(Z:V6 Zv)(w:V1)(hI:ItT w)(hZ:Z.length=n)(hP:DevsR w p c Z)(hR:∀ i,i<n→(∀ m∈(Z.getD i zvD).1.2,MpR m)∧(Z.getD i zvD).1.2.length≤100000)(hn:n≤100000) :
 C0 8 #[.agg #[V0 t,V0 u,V0 v,V0 x,.slice p n c]] w (Kd (fun w' r=>∃ q d,r=.slice q n d∧w'.ownsRow w.heap.size 3 1 (.slice q n d) n ((owL (Z.map fst)).map nv)) w):=by
 have e8:=Sl.len (hP.b6 hZ)
 refine zin 41 Tryz.func8 ?_
 refine xa 2 [V0 t,V0 u,V0 v,V0 x,.slice p n c] 24 fun b1 W1 n1=>?_
 refine xmmV mkS 5 64 fun rm W2 m2=>?_
 have e3:=m2.ge n1.i
 have k1:=n1.blk.i m2.i
 refine xb 12 4 k1 ?_
 have hM:=(knV_0 (Z.map fst)▸m2.map)
 have c9:=bln n1.i m2.i
 refine zl 5 41 (fun zm d7 V=>∃ (i:Nat) (rp:O0) (rc:Nat),d7=[(2,S1),(3,.map (some rm)),(4,.slice rp i rc),(12,.slice p n c),(13,V0 (n:Int)),(14,V0 (i:Int))]∧zm=n-((i:Int)).toNat∧B3 w V∧Blk V b1 ([V0 t,V0 u,V0 v,V0 x,.slice p n c]) 24∧V.ownsRow w.heap.size 3 1 (.slice rp i rc) i (((range i).map (Xz (Z.map fst))).map nv)∧Lx mkS V rm (knV (Z.map fst) i)∧i≤n) ⟨0,none,0,rfl,rfl,c9,k1,A8 _ _ _ _,hM,A5 _⟩ ?_
 rintro _ _ W3 ⟨i,rp,rc,rfl,rfl,a5,a8,c8,c7,hi⟩ J3 d4 r3
 refine xid 6 ((i:Int)<(n:Int)) (fun e1=>?_) (fun e1=>?_)
 ·have b0:=zfst (Z:=Z) (i:=i) M0 dvD
  have d8:i<(Z.map fst).length:=by rw[A3];omega
  have e9:=(Ng d8).1
  refine xx 7 _ n i 5 (hP.a4 hZ (i:=i) M0) ?_
  refine xlv 0 (Sts.rp (k:=i) (hP.i a5).row Jd zvD M0 Do) ?_
  refine xa 0 [V0 0,V0 0,V0 0,V0 0,S1] 32 fun b5 W5 n5=>?_
  have g5:=n5.ge a5
  refine xsv 1 n5.blk [V0 ((Z.getD i zvD).1.1.1),V0 ((Z.getD i zvD).1.1.2.1),V0 ((Z.getD i zvD).1.1.2.2.1),V0 ((Z.getD i zvD).1.1.2.2.2),.slice ((Z.getD i zvD).2.1) ((Z.getD i zvD).1.2.length) ((Z.getD i zvD).2.2)] fun W6 u6 k6=>?_
  refine xb 5 4 k6 ?_
  have a4:=u6.i (bln a5 n5.i) g5
  refine xr 0 (Ztk (Z.getD i zvD).2.1 (Z.getD i zvD).2.2 (Z.getD i zvD).1.2 _ (hI.i a4) ((hP.each i M0).i a4) (hR i M0).1 (hR i M0).2) fun W7 a9=>?_
  have a0:=((c7.i n5.i).c6 u6 n5.blk).i a9
  rcases Decidable.em (Xz (Z.map fst) i=i) with c2|c2
  ·have a3:Xz (Z.map fst) i=i:=c2
   refine xlkN 8 (z:=V0 0) (txt (Z.getD i zvD).1.2) true Tryz.underlying64 (keyS Tryz.underlying9) (fun V=>by kernel_rfl) a0 (by rw[←b0];exact Zxm M0 a3) ?_
   have d5:=Lx.j6 a0
   refine xmuV 18 (txt (Z.getD i zvD).1.2) (V0 (i:Int)) Tryz.underlying64 (keyS Tryz.underlying9) a0 (by rw[←b0];exact Zxm M0 a3) fun W8 u8 m8=>?_
   have hM:=(by have q9:=m8;rw[←b0,knV_yes a3] at q9;exact q9)
   refine xlkS 6 (txt (Z.getD i zvD).1.2) false Tryz.underlying64 (keyS Tryz.underlying9) hM (by rw[←b0];exact Zlc (j:=i+1) M0 M0) ?_
   refine xbs 0 1 [V0 (↑(Xz (Z.map fst) i):Int)] 3 fun b9 W9 n9=>?_
   have d2:=u8.i (bln a4 a9) e3
   have b2:=own_obj (Zb (u6.j (Zb c8 n5.i) n5.blk Do) a9) d5 u8
   have a1:=Zb b2 n9.i
   have b7:=bln d2 n9.i
   refine xbi 0 fun _ _ _ _ zJ zQ zo zx zy zK=>Xd (m:=1) (news:=[V0 (↑(Xz (Z.map fst) i):Int)]) (V0 0) 1 8 (i+1) ((((range (i+1)).map (Xz (Z.map fst))).map nv)) zo Tryz.underlying27 K0 rfl Do zx a1 zy (n9.blk.sl 1 1 Do Do) rfl Y4 Y2 M0 b7.size Y6 (Zzb) fun e5 d9 f2 e6 b8 c1=>?_
   refine zK _ _ ?_
   refine xwm 5 ((i:Int)+1) (↑(i+1):Int) ?_
   have c4:=(hM.i n9.i).grown b8 a1
   have d1:=b7.trans c1
   have a6:=((blk_obj ((u6.A (a8.i n5.i) n5.blk Do).i a9) d5 u8).i n9.i).grown b8 a1 Do
   exact ze 2 (d4 _ _ _ ⟨i+1,_,_,rfl,rfl,d1,a6,e6,c4,M0⟩ M0)
  have a3:Xz (Z.map fst) i≠i:=c2
  have c6:Xz (Z.map fst) i<i:=M0
  refine xlkS 8 (txt (Z.getD i zvD).1.2) true Tryz.underlying64 (keyS Tryz.underlying9) a0 (by rw[←b0];exact Zlc M0 c6) ?_
  refine xlkS 20 (txt (Z.getD i zvD).1.2) false Tryz.underlying64 (keyS Tryz.underlying9) a0 (by rw[←b0];exact Zlc (j:=i) M0 M0) ?_
  refine xbs 0 1 [V0 (↑(Xz (Z.map fst) i):Int)] 3 fun f0 e7 b4=>?_
  have d0:=bln a4 a9
  have b6:=Zb (u6.j (Zb c8 n5.i) n5.blk Do) a9
  have a2:=Zb b6 b4.i
  have c0:=bln d0 b4.i
  refine xbi 0 fun _ _ _ _ zJ zQ zo zx zy zK=>Xd (m:=1) (news:=[V0 (↑(Xz (Z.map fst) i):Int)]) (V0 0) 1 8 (i+1) ((((range (i+1)).map (Xz (Z.map fst))).map nv)) zo Tryz.underlying27 K0 rfl Do zx a2 zy (b4.blk.sl 1 1 Do Do) rfl Y4 Y2 M0 c0.size Y6 (Zzb) fun e4 d6 f1 e0 b3 c3=>?_
  refine zK _ _ ?_
  refine xwm 5 ((i:Int)+1) (↑(i+1):Int) ?_
  have c5:=(a0.i b4.i).grown b3 a2
  have d3:=c0.trans c3
  have a7:=(((u6.A (a8.i n5.i) n5.blk Do).i a9).i b4.i).grown b3 a2 Do
  exact ze 2 (d4 _ _ _ ⟨i+1,_,_,rfl,rfl,d3,a7,e0,(knV_no a3▸c5),M0⟩ M0)
 have e2:i=n:=M0
 exact xe 12 (.slice rp i rc) (by subst e2;have q:=c8;exact⟨_,rfl,a5,_,_,rfl,by unfold owL;rw[A3,hZ];exact q⟩)
theorem Zqd{cs O:V6 Nat}{j:Nat}(h:j<O.length):Ky cs (O.take (j+1))=Nl (Ky cs (O.take j)) (↑(O.getD j 0):Int):=by
 rw[B5 h,Cm,show O.getD j 0=O[j] from by simp[getD,h]];rfl
theorem Zwb{n:Nat}{O:V6 Nat}{j:Nat}(h:j<O.length):((Ky (replicate n 0) (O.take j)).map nv).set (O.getD j 0) (V0 (↑((Ky (replicate n 0) (O.take j)).getD (O.getD j 0) 0+1):Int))=(Ky (replicate n 0) (O.take (j+1))).map nv:=by
 rw[Zld,Zqd h]
theorem Zkz{n:Nat}{O:V6 Nat}(ho:∀ b∈O,b<n)(j k:Nat):(Ky (replicate n 0) (O.take j)).getD k 0≤O.length:=by
 rw[Pe _ _ (fun b hb=>by rw[B7];exact ho b (M1 hb))];have h0:(replicate n 0).getD k 0=0:=by simp[getD,L1];split<;>rfl
 have h1:=List.count_le_length (a:=k) (l:=O.take j);rw[D8] at h1;omega
theorem getD_lt{n:Nat}{O:V6 Nat}(ho:∀ b∈O,b<n){j:Nat}(h:j<O.length):O.getD j 0<n:=ho _ (by rw[show O.getD j 0=O[j] from by simp[getD,h]];exact F3 h)
theorem quo959(m:Nat)(h:m≤1000000):IntKind.i64.wrap (Int.tdiv (m:Int) 959)=(↑(m/959):Int):=by
 rw[show(959:Int)=((959:Nat):Int) from rfl,←Int.ofNat_tdiv];exact IntWalk.i64_in _ M0
theorem okR{data:Int}{Z:V6 Zv}{n:Nat}(hZ:Z.length=n)(h:DevsOk data (Z.map fst))(hd:data≤65536):∀ i,i<n→(∀ m∈(Z.getD i zvD).1.2,MpR m)∧(Z.getD i zvD).1.2.length≤100000:=fun i hi=>by
 have hm:(Z.getD i zvD).1∈Z.map fst:=by
  rw[show Z.getD i zvD=Z[i] from by simp[getD,hZ▸hi]];exact List.mem_map.2 ⟨_,F3 (hZ▸hi),rfl⟩
 have h1:=(h.each _ hm).b8;have h2:=Zj4 h (i:=i) M0;refine⟨fun m hq=>?_,M0⟩;have q:=h1.each m hq;unfold MpR InI;omega
theorem Zbk(a:O0)(n c:Nat)(O:V6 Nat)(w:V1)(hn:O.length=n)(h:Sl w (.slice a n c) n (O.map nv))(ho:∀ b∈O,b<n)(hl:n≤100000) :
 C0 34 #[.slice a n c] w (Kd (fun w' r=>∃ q d,r=.slice q n d∧w'.ownsRow w.heap.size 3 1 (.slice q n d) n ((Ky (replicate n 0) O).map nv)) w):=by
 refine zin 23 Tryz.func34 ?_
 refine xmk 9 fun _ _ _ _ zJ zQ zo zx zy zK=>Ht n (V0 0) 1 8 ((replicate n (0:Nat)).map nv) zo zx zy Tryz.underlying27 K0 rfl M0 M0 ((zerosV n)) fun b1 W1 n1=>?_
 refine zK _ _ ?_
 have o1:=Xw (size:=1) (n:=n) n1.blk (n1.ge (B4 w)) (by rw[A3,B7,G7]) Y2
 refine zl 12 23 (fun zm a2 V=>∃ (j:Nat),a2=[(2,S1),(3,.slice (S3 b1) n n),(9,.slice a n c),(10,V0 (n:Int)),(11,V0 (j:Int))]∧zm=n-((j:Int)).toNat∧B3 w V∧V.ownsRow w.heap.size 3 1 (.slice (S3 b1) n n) n ((Ky (replicate n 0) (O.take j)).map nv)∧j≤n) ⟨0,rfl,rfl,n1.i,o1,A5 _⟩ ?_
 rintro _ _ W2 ⟨j,rfl,rfl,a0,hc,hj⟩ J2 a3 r2
 refine xid 6 ((j:Int)<(n:Int)) (fun a4=>?_) (fun a4=>?_)
 ·have a5:=getD_lt ho (j:=j) M0
  have a6:=Zkz ho j (O.getD j 0)
  refine xx 6 _ n j 1 (Vf h hn (k:=j) M0).1 ?_
  refine xl 0 ((Vf (h.i a0) hn (k:=j) M0).2) ?_
  refine xx 6 _ n (O.getD j 0) 1 (show(some (⟨b1,0,none⟩:Addr)).isSome=true from rfl) ?_
  refine xl 0 ((Vf (Zf hc) (by rw[Uc,B7]) (k:=(O.getD j 0)) M0).2) ?_
  refine xwm 0 ((↑((Ky (replicate n 0) (O.take j)).getD (O.getD j 0) 0):Int)+1) (↑(((Ky (replicate n 0) (O.take j)).getD (O.getD j 0) 0)+1):Int) ?_
  refine xx 0 _ n (O.getD j 0) 1 (show(some (⟨b1,0,none⟩:Addr)).isSome=true from rfl) ?_
  refine xst 0 fun _ _ _ _ zJ zQ zo zx zy zK=>Vx (t:=3) (k:=(O.getD j 0)) (v:=V0 (↑(((Ky (replicate n 0) (O.take j)).getD (O.getD j 0) 0)+1):Int)) zo zx zy K0 rfl hc M0 fun W4 u4 o4=>?_
  rw[Zwb (n:=n) (O:=O) (j:=j) M0] at o4
  refine zK _ _ ?_
  refine xwm 4 ((j:Int)+1) (↑(j+1):Int) ?_
  have a1:=u4.i a0 (Ux hc)
  exact ze 2 (a3 _ _ _ ⟨j+1,rfl,rfl,a1,o4,M0⟩ M0)
 exact xe 12 (.slice (S3 b1) n n) ⟨_,rfl,a0,_,_,rfl,by have q:=hc;rw[B9 M0] at q;exact q⟩
theorem Fc(p:O0)(c n x:Nat)(t u v:Int)(Z:V6 Zv)(w:V1)(hI:ItT w)(hZ:Z.length=n)(hP:DevsR w p c Z)(hk:PoolOk t u v (x:Int) (Z.map fst)) :
 C0 10 #[.agg #[V0 t,V0 u,V0 v,V0 (x:Int),.slice p n c]] w (Ret (V0 (↑(Ma x (Z.map fst)):Int)) w):=by
 have hx:x≤65536:=by have:=hk.a3;omega
 have e5:=Sl.len (hP.b6 hZ)
 have e0:=hk.J.a0
 rw[A3] at e0
 have d6:=Zn6 hx hk.J
 have d1:Cf (Z.map fst)+1≤Cq x (Z.map fst):=by unfold Cq;omega
 have c5:Zsr x (Z.map fst)=Cq x (Z.map fst)-Mn (Z.map fst) (Z.map fst).length+1+Zy 5 (Lv (Z.map fst)):=rfl
 obtain⟨bs,c3⟩:∃ y,Cq x (Z.map fst)=y:=⟨_,rfl⟩
 rw[c3] at d6 d1 c5
 refine zin 50 Tryz.func10 ?_
 refine xa 2 [V0 t,V0 u,V0 v,V0 (x:Int),.slice p n c] 24 fun b1 W1 n1=>?_
 refine xlv 5 n1.blk.rp ?_
 refine xr 0 (by have q:=Zzc p c n x t u v Z _ hZ (hP.i n1.i) hk;rw[c3] at q;exact q) fun W2 c2=>?_
 refine xk 10 (show(((bs:Int)==(0:Int)):Bool)=false from beq_false_of_ne M0) ?_
 have a8:=n1.blk.i c2
 refine xlv 10 a8.rp ?_
 have a3:=bln n1.i c2
 refine xc 0 (Ed p c n t u v (x:Int) Z _ (hI.i a3) hZ (hP.i a3) (okR hZ hk.J M0) M0) ?_
 rintro _ W3 ⟨_,rfl,c0,q8,d8,rfl,c9⟩
 have e1:=(bln n1.i c2).size
 have a7:=Zg c9 e1
 refine xc 0 (Zbk q8 n d8 (owL (Z.map fst)) _ (by rw[Zgl,A3];exact hZ) (Zf a7) (fun b hb=>by have:=Zmr (Z.map fst) b hb;rw[A3] at this;omega) M0) ?_
 rintro _ W4 ⟨_,rfl,c6,q9,d9,rfl,a6⟩
 have d3:=(bln a3 c0).size
 have a4:=Zg a6 d3
 rw[show Ky (replicate n 0) (owL (Z.map fst))=shN (Z.map fst) from by unfold shN;rw[A3,hZ]] at a4
 refine xv1 5 3 (show(V0 (bs:Int):V2)=V0 (↑(bs-Mn (Z.map fst) 0):Int) from congrArg V0 (by first|rfl|simp[Mn,Gd])) ?_
 refine xv1 0 4 (show(V0 0:V2)=V0 (↑(Gd (shN (Z.map fst)) 0):Int) from congrArg V0 (by first|rfl|simp[Mn,Gd])) ?_
 have b3:=bln (bln a3 c0) c6
 have c1:=(a8.i c0).i c6
 refine zl 0 50 (fun zm d2 V=>∃ (i:Nat),d2=[(1,P0 b1),(2,V0 0),(3,V0 (↑(bs-Mn (Z.map fst) i):Int)),(4,V0 (↑(Gd (shN (Z.map fst)) i):Int)),(13,.slice q9 n d9),(14,V0 (n:Int)),(15,V0 (i:Int))]∧zm=n-((i:Int)).toNat∧B3 w V∧Blk V b1 ([V0 t,V0 u,V0 v,V0 (x:Int),.slice p n c]) 24∧V.ownsRow w.heap.size 3 1 (.slice q9 n d9) n ((shN (Z.map fst)).map nv)∧i≤n) ⟨0,rfl,rfl,b3,c1,a4,A5 _⟩ ?_
 rintro _ _ W5 ⟨i,rfl,rfl,a1,a0,a6,hi⟩ J5 b2 r5
 refine xid 6 ((i:Int)<(n:Int)) (fun e3=>?_) (fun e3=>?_)
 ·have b4:i<(Z.map fst).length:=by rw[A3];omega
  have c4:=Zfk b4
  have e6:=Pd (cs:=shN (Z.map fst)) (k:=i) (by rw[Nc];exact b4)
  have a5:Mn (Z.map fst) (i+1)=Mn (Z.map fst) i+if Xz (Z.map fst) i=i then 0 else Zy 2 ((Z.map fst).getD i dvD).2.length:=rfl
  rw[zfst M0] at a5
  have d7:=off_le (Z.map fst) (i:=i+1) b4
  have e9:=Zj4 hk.J (i:=i) M0
  have e7:Gd (shN (Z.map fst)) i≤i:=by unfold Gd;exact N0 (O1 _ _) (by rw[D8];exact K6 _ _)
  refine xx 7 _ n i 1 (Vf (Zf a6) (by rw[Nc,A3];exact hZ) (k:=i) M0).1 ?_
  refine xl 0 ((Vf (Zf a6) (by rw[Nc,A3];exact hZ) (k:=i) M0).2) ?_
  refine xie 12 (↑((shN (Z.map fst)).getD i 0):Int) (0:Int) (fun c8=>?_) (fun c8=>?_)
  ·have b7:Xz (Z.map fst) i≠i:=fun q=>c4.1 q M0
   rw[V7 b7] at a5
   refine xb 3 4 a0 ?_
   refine xx 1 _ n i 5 (hP.a4 hZ (i:=i) M0) ?_
   refine xl 1 ((Sts.cell (hP.i a1).row Jd zvD (k:=i) (i:=4) M0 rfl).2) ?_
   refine xr 1 (Qu 2 ((Z.getD i zvD).1.2.length) _ Do Do M0) fun W8 b6=>?_
   refine xw 0 ((↑(bs-Mn (Z.map fst) i):Int)-(↑(Zy 2 ((Z.getD i zvD).1.2.length)):Int)) ?_
   refine xwm 6 ((i:Int)+1) (↑(i+1):Int) ?_
   refine xv1 2 3 (show(V0 ((↑(bs-Mn (Z.map fst) i):Int)-(↑(Zy 2 ((Z.getD i zvD).1.2.length)):Int)):V2)=V0 (↑(bs-Mn (Z.map fst) (i+1)):Int) from congrArg V0 (by first|(have:(if 3≤(shN (Z.map fst)).getD i 0 then 1 else 0)=0:=by split<;>omega)<;>omega|omega)) ?_
   refine xv1 0 4 (show(V0 (↑(Gd (shN (Z.map fst)) i):Int):V2)=V0 (↑(Gd (shN (Z.map fst)) (i+1)):Int) from congrArg V0 (by first|(have:(if 3≤(shN (Z.map fst)).getD i 0 then 1 else 0)=0:=by split<;>omega)<;>omega|omega)) ?_
   have b9:=bln a1 b6
   have a2:=a0.i b6
   have a9:=Zb a6 b6
   exact ze 0 (b2 _ _ _ ⟨i+1,rfl,rfl,b9,a2,a9,M0⟩ M0)
  have b7:Xz (Z.map fst) i=i:=c4.2 M0
  rw[V8 b7] at a5
  refine xid 7 ((↑((shN (Z.map fst)).getD i 0):Int)≥(3:Int)) (fun e2=>?_) (fun e2=>?_)
  ·refine xwm 2 ((↑(Gd (shN (Z.map fst)) i):Int)+1) (↑((Gd (shN (Z.map fst)) i)+1):Int) ?_
   refine xwm 6 ((i:Int)+1) (↑(i+1):Int) ?_
   refine xv1 2 3 (show(V0 (↑(bs-Mn (Z.map fst) i):Int):V2)=V0 (↑(bs-Mn (Z.map fst) (i+1)):Int) from congrArg V0 (by first|(have:(if 3≤(shN (Z.map fst)).getD i 0 then 1 else 0)=1:=by split<;>omega)<;>omega|omega)) ?_
   refine xv1 0 4 (show(V0 (↑((Gd (shN (Z.map fst)) i)+1):Int):V2)=V0 (↑(Gd (shN (Z.map fst)) (i+1)):Int) from congrArg V0 (by first|(have:(if 3≤(shN (Z.map fst)).getD i 0 then 1 else 0)=1:=by split<;>omega)<;>omega|omega)) ?_
   exact ze 0 (b2 _ _ _ ⟨i+1,rfl,rfl,a1,a0,a6,M0⟩ M0)
  refine xwm 5 ((i:Int)+1) (↑(i+1):Int) ?_
  refine xv1 2 3 (show(V0 (↑(bs-Mn (Z.map fst) i):Int):V2)=V0 (↑(bs-Mn (Z.map fst) (i+1)):Int) from congrArg V0 (by first|(have:(if 3≤(shN (Z.map fst)).getD i 0 then 1 else 0)=0:=by split<;>omega)<;>omega|omega)) ?_
  refine xv1 0 4 (show(V0 (↑(Gd (shN (Z.map fst)) i):Int):V2)=V0 (↑(Gd (shN (Z.map fst)) (i+1)):Int) from congrArg V0 (by first|(have:(if 3≤(shN (Z.map fst)).getD i 0 then 1 else 0)=0:=by split<;>omega)<;>omega|omega)) ?_
  exact ze 0 (b2 _ _ _ ⟨i+1,rfl,rfl,a1,a0,a6,M0⟩ M0)
 have c7:i=n:=M0
 have e4:=Zon (Z.map fst)
 have d4:Gd (shN (Z.map fst)) i=Lv (Z.map fst):=by rw[c7];unfold Lv;rw[A3,hZ]
 have b5:Mn (Z.map fst) i=Mn (Z.map fst) (Z.map fst).length:=by rw[c7,A3,hZ]
 have d5:=Pc 5 (Gd (shN (Z.map fst)) i)
 have d0:=Ze0 x (Z.map fst)
 rw[A3] at e4
 refine xr 9 (Qu 5 (Gd (shN (Z.map fst)) i) _ Do Do M0) fun e8 b0=>?_
 refine xwm 0 (1+(↑(Zy 5 (Gd (shN (Z.map fst)) i)):Int)) (↑(1+(Zy 5 (Gd (shN (Z.map fst)) i))):Int) ?_
 refine xw 0 ((↑(bs-Mn (Z.map fst) i):Int)+(↑(1+(Zy 5 (Gd (shN (Z.map fst)) i))):Int)) ?_
 refine xw 7 ((↑(bs-Mn (Z.map fst) i):Int)+(↑(1+(Zy 5 (Gd (shN (Z.map fst)) i))):Int)-1) ?_
 refine xq 0 (congrArg V0 (show(IntKind.i64.wrap (Int.tdiv ((↑(bs-Mn (Z.map fst) i):Int)+(↑(1+(Zy 5 (Gd (shN (Z.map fst)) i))):Int)-1) 959):Int)=(↑((bs-Mn (Z.map fst) i+(1+Zy 5 (Gd (shN (Z.map fst)) i))-1)/959):Int) from(by rw[show((↑(bs-Mn (Z.map fst) i):Int)+(↑(1+(Zy 5 (Gd (shN (Z.map fst)) i))):Int)-1)=(↑(bs-Mn (Z.map fst) i+(1+Zy 5 (Gd (shN (Z.map fst)) i))-1):Int) by omega];exact quo959 _ M0))) ?_
 refine xw 0 ((↑(bs-Mn (Z.map fst) i):Int)+(↑(1+(Zy 5 (Gd (shN (Z.map fst)) i))):Int)+(↑((bs-Mn (Z.map fst) i+(1+Zy 5 (Gd (shN (Z.map fst)) i))-1)/959):Int)) ?_
 refine xw 0 ((↑(bs-Mn (Z.map fst) i):Int)+(↑(1+(Zy 5 (Gd (shN (Z.map fst)) i))):Int)+(↑((bs-Mn (Z.map fst) i+(1+Zy 5 (Gd (shN (Z.map fst)) i))-1)/959):Int)+1) ?_
 have b8:=bln a1 b0
 exact xe 4 (V0 ((↑(bs-Mn (Z.map fst) i):Int)+(↑(1+(Zy 5 (Gd (shN (Z.map fst)) i))):Int)+(↑((bs-Mn (Z.map fst) i+(1+Zy 5 (Gd (shN (Z.map fst)) i))-1)/959):Int)+1)) ⟨by rw[c3] at d0;unfold Ma Zkc;rw[c5,←d4,←b5];exact congrArg (fun z:Int=>Ending.returned (Value.int .i64 z)) M0,b8⟩
theorem be_out{B ba b g nn cc be:Nat}{pa:O0}{ca N:Nat}{bs:Bl}{F:V6 Kw}{w:V1}{cs:V6 V2}(h:AlF B ba b g nn cc pa ca N bs F w)(ke:Blk w be cs 39):be∉[ba,g]:=by
 have h1:=J0 ke h.U Do;have h2:=Yc ke h.data Do;simp only[B6,C8,or_false,not_or];exact⟨h1,h2⟩
theorem AlF.T{B ba b g nn cc:Nat}{pa:O0}{ca N:Nat}{bs:Bl}{F:V6 Kw}{w V:V1}{B2 n:Nat}{v:V2}{xs:V6 V2}(h:AlF B ba b g nn cc pa ca N bs F w)(hAp:Vi v (.slice pa N ca))(hg:w.grownBy V v.ownBlock)(ho:w.ownsRow B2 3 1 v n xs):AlF B ba b g nn cc pa ca N bs F V :=
 ⟨h.U.grown hg ho Do,h.a7.grown hg ho Do,Zt h.data hg ho Do,hAp.row h.a1 hg⟩
theorem Al.c7{B ba b g nn cc:Nat}{pa:O0}{ca f N k0:Nat}{bs:Bl}{w W:V1}{gc n c B2:Nat}{xs:V6 V2}(h:Al B ba b g nn cc pa ca f N k0 bs w)(hp:∀ n2 c2,Vi (.slice (S3 gc) n2 c2) (.slice pa N ca))(u:Upd w gc W)(ho:w.ownsRow B2 3 1 (.slice (S3 gc) n c) n xs):Al B ba b g nn cc pa ca f N k0 bs W :=
 ⟨u.blk h.U (Yc h.U ho Do),u.blk h.a7 (Yc h.a7 ho Do),u.e2 h.data ho Do,u.O h.a1 (fun j hj e=>hp n c _ rfl (e▸hj))⟩
theorem AlF.c7{B ba b g nn cc:Nat}{pa:O0}{ca N:Nat}{bs:Bl}{F:V6 Kw}{w W:V1}{gc n c B2:Nat}{xs:V6 V2}(h:AlF B ba b g nn cc pa ca N bs F w)(hp:∀ n2 c2,Vi (.slice (S3 gc) n2 c2) (.slice pa N ca))(u:Upd w gc W)(ho:w.ownsRow B2 3 1 (.slice (S3 gc) n c) n xs):AlF B ba b g nn cc pa ca N bs F W:=Al.c7 h hp u ho
theorem Uk{w:V1}{p:O0}{n c:Nat}{L:V6 Dv}(h:Sl w (.slice p n c) n ((owL L).map nv))(hn:L.length=n){i:Nat}(hi:i<n):p.isSome=true∧w.cell? (Zx p (i*1))=some (V0 (↑(Xz L i):Int)):=by
 have q:=Vf h (by rw[Zgl];exact hn) hi;rw[owL_get M0] at q;exact q
theorem Yo{w:V1}{p:O0}{n c:Nat}{L:V6 Dv}(h:Sl w (.slice p n c) n (((range n).map (twR L)).map nv)){i:Nat}(hi:i<n):p.isSome=true∧w.cell? (Zx p (i*1))=some (V0 (↑(twR L i):Int)):=by
 have q:=Jy h (k:=i) (by simpa using hi);refine⟨q.1,q.2.trans ?_⟩;simp[getD,C1 hi]
theorem Jq{L:V6 Dv}{i:Nat}(h:i<L.length):((range i).map (twR L)).map nv++[V0 (↑(twR L (Xz L i)):Int)]=((range (i+1)).map (twR L)).map nv:=by
 rw[B8,A6,A6,←twR_of h];rfl
theorem Zxd{L:V6 Dv}{i:Nat}(h:Xz L i=i):((range i).map (twR L)).map nv++[V0 (↑(twN L (i+1)):Int)]=((range (i+1)).map (twR L)).map nv:=by
 rw[B8,A6,A6,←Zkp h];rfl
theorem Zle(B ba b g nn cc:Nat)(pa:O0)(ca N:Nat)(bs:Bl)(F:V6 Kw)(t:Int)(a:O0)(c n:Nat)(l:V6 Ent)(bx be:Nat)(x1 x2:V2)(w:V1)(hl:l.length=n)(hC:AlC B ba nn cc ca 1 N)(hA:AlF B ba b g nn cc pa ca N bs F w)(kx:Blk w bx [P0 ba,x1,x2] 82)(ke:Blk w be [.nilIface] 39)(hbe:B≤be)(hok:Lu (t,l))(hr:Xr (F++[(t,l)])≤N)(hin:∀ W,Below B w W→Zd [169,5,39] w W→Sl W (.slice a n c) n (l.flatMap Ki))(hBw:B≤w.heap.size) :
 C0 89 #[P0 bx,V0 t,.slice a n c,P0 be] w ((fun e w'=>e=.returned (V0 (↑(Xr (F++[(t,l)])):Int))∧Below B w w'∧Zd [169,5,39] w w'∧AlF B ba b g nn cc pa ca N bs (F++[(t,l)]) w'∧Blk w' be [.nilIface] 39)):=by
 refine zin 29 Tryz.func89 ?_
 refine xb 10 0 ke ?_
 refine xb 11 0 kx ?_
 have a4:=be_out hA ke
 refine xc 2 (args:=#[P0 ba,V0 t,.slice a n c]) (build_F B ba b g nn cc pa ca N bs F t a c n l _ hl hC hA hok hr (fun W h1 h2=>hin W ((U3 _ _).trans h1) ((Zd.refl _ _).trans h2)) (N0 hBw (U3 B _).size)) ?_
 rintro _ W1 ⟨rfl,a2,a3,a5,hA⟩
 have a0:=Blk.fr ke a5 a4
 refine xs 12 a0 [.nilIface] fun W2 u2 k2=>?_
 have a1:=hA.q (Q1 (T:=[39]) u2 a0 Do) Do
 have hB:=u2.i a2 hbe
 have hO:=(show Zd [169,5,39] w _ from a3).trans (Q1 u2 a0 Do)
 exact xe 9 (V0 (↑(Xr (F++[(t,l)])):Int)) ⟨rfl,hB,hO,a1,k2⟩
theorem tw_trees(B ba b g nn cc:Nat)(pa:O0)(ca N:Nat)(bs:Bl)(bx be gc k:Nat)(p:O0)(c n x:Nat)(t u v:Int)(Z:V6 Zv)(w:V1)(hI:∀ W,Below B w W→ItT W)(hZ:Z.length=n)(hP:∀ W,Below B w W→DevsR W p c Z)(hk:PoolOk t u v (x:Int) (Z.map fst))(hC:AlC B ba nn cc ca 1 N)(hA:AlF B ba b g nn cc pa ca N bs [] w)(kx:Blk w bx [P0 ba,S1,.slice (S3 gc) k k] 82)(ke:Blk w be [.nilIface] 39)(hbx:B≤bx)(hbe:B≤be)(hc:w.ownsRow B 3 1 (.slice (S3 gc) k k) k ((Zfh 0 k).map V0))(hpa:∀ n2 c2,Vi (.slice (S3 gc) n2 c2) (.slice pa N ca))(hN:N=k-1)(hr:Xr (G2 (Z.map fst))≤N)(hBw:B≤w.heap.size) :
 C0 43 #[P0 bx,.agg #[V0 t,V0 u,V0 v,V0 (x:Int),.slice p n c],P0 be] w ((fun e w'=>e=.returned (.tuple #[])∧∃ rp rc,Below B w w'∧Zd [169,5,39,3,82,124] w w'∧AlF B ba b g nn cc pa ca N bs (twT (Z.map fst) n) w'∧Blk w' bx [P0 ba,.slice rp n rc,.slice (S3 gc) k k] 82∧Blk w' be [.nilIface] 39∧w'.ownsRow B 3 1 (.slice rp n rc) n (((range n).map (twR (Z.map fst))).map nv)∧w'.ownsRow B 3 1 (.slice (S3 gc) k k) k ((Zlt (Z.map fst) k n).map V0))):=by
 have mb:=hc
 have h6:=hA.a1
 have fz:=hpa k k
 have ml:∀ W,Below B w W→Zd [169,5,39,3,82,124] w W→DevsR W p c Z:=fun W h _=>hP W h
 have hx:x≤65536:=by have:=hk.a3;omega
 have p3:(Z.map fst).length=n:=by rw[A3];exact hZ
 have lk:(shN (Z.map fst)).length=n:=by rw[Nc];exact p3
 have nq:=hk.J.a0
 have oz:N≤14400:=by have a:=hC.hf;have b:=hC.hn;omega
 have pq:=Zy2 (Z.map fst)
 have hR:=okR hZ hk.J M0
 have ox:=Sl.len ((hP w (U3 _ _)).b6 hZ)
 refine zin 95 Tryz.func43 ?_
 refine xa 2 [V0 t,V0 u,V0 v,V0 (x:Int),.slice p n c] 24 fun b1 W1 n1=>?_
 refine xlv 4 n1.blk.rp ?_
 have hB:=blB (U3 B w) hBw n1.i
 refine xc 0 (args:=#[.agg #[V0 t,V0 u,V0 v,V0 (x:Int),.slice p n c]]) (Ed p c n t u v (x:Int) Z _ (hI _ hB) hZ (hP _ hB) hR M0) ?_
 rintro _ W2 ⟨_,rfl,s1,qo,eo,rfl,ho⟩
 have ob:=(blB (U3 B w) hBw n1.i).size
 have bl:=Zg ho ob
 have lw:=X3 mb bl (At _)
 refine xc 6 (Zbk qo n eo (owL (Z.map fst)) _ (by rw[Zgl];exact p3) (Zf bl) (fun b hb=>by have:=Zmr (Z.map fst) b hb;omega) M0) ?_
 rintro _ W3 ⟨_,rfl,u2,qn,dn,rfl,h5⟩
 have ng:=(blB hB hBw s1).size
 have l5:=Zg h5 ng
 rw[show Ky (replicate n 0) (owL (Z.map fst))=shN (Z.map fst) from by unfold shN;rw[p3]] at l5
 have ly:=X3 mb l5 (At _)
 have fx:=(n1.blk.i s1).i u2
 refine xb 6 4 fx ?_
 have li:=Zb (Zb (Zb hc n1.i) s1) u2
 have fc:=Zb (Zb (Zb h6 n1.i) s1) u2
 have jq:=Zb bl u2
 have lr:=((hA.i n1.i).i s1).i u2
 have lq:=blB (blB hB hBw s1) hBw u2
 have hO:=((show Zd [169,5,39,3,82,124] w _ from(Q0 n1.i)).trans (Q0 s1)).trans (Q0 u2)
 have kg:=((kx.i n1.i).i s1).i u2
 have jn:=((ke.i n1.i).i s1).i u2
 refine zl 5 95 (fun zm lf V=>∃ (i:Nat) (rp:O0) (rc:Nat),lf=[(0,P0 bx),(2,P0 be),(6,.slice qo n eo),(7,.slice qn n dn),(19,.slice p n c),(20,V0 (n:Int)),(21,V0 (i:Int))]∧zm=n-((i:Int)).toNat∧Below B w V∧Zd [169,5,39,3,82,124] w V∧Blk V bx ([P0 ba,.slice rp i rc,.slice (S3 gc) k k]) 82∧Blk V be ([.nilIface]) 39∧Blk V b1 ([V0 t,V0 u,V0 v,V0 (x:Int),.slice p n c]) 24∧V.ownsRow w.heap.size 3 1 (.slice qo n eo) n ((owL (Z.map fst)).map nv)∧V.ownsRow w.heap.size 3 1 (.slice qn n dn) n ((shN (Z.map fst)).map nv)∧V.ownsRow w.heap.size 3 1 (.slice rp i rc) i (((range i).map (twR (Z.map fst))).map nv)∧V.ownsRow B 3 1 (.slice (S3 gc) k k) k ((Zlt (Z.map fst) k i).map V0)∧V.ownsRow B 3 1 (.slice pa N ca) N ((Zb9 1 N).map V0)∧AlF B ba b g nn cc pa ca N bs (twT (Z.map fst) i) V∧i≤n∧Vi (.slice rp i rc) (.slice qo n eo)∧Vi (.slice rp i rc) (.slice qn n dn)∧Vi (.slice (S3 gc) k k) (.slice rp i rc)∧Vi (.slice rp i rc) (.slice pa N ca)) ⟨0,none,0,rfl,rfl,lq,hO,kg,jn,fx,jq,l5,A8 _ _ _ _,(by rw[cntT_0];exact li),fc,lr,A5 _,Vi.nil _,Vi.nil _,(Vi.nil _).symm,Vi.nil _⟩ ?_
 rintro _ _ W4 ⟨i,rp,rc,rfl,rfl,d5,d9,g5,c5,c6,ho,h5,m5,hc,h6,hA,hi,a4,a3,a2,a0⟩ J4 j7 r4
 refine xid 6 ((i:Int)<(n:Int)) (fun nx=>?_) (fun nx=>?_)
 ·have g8:i<(Z.map fst).length:=M0
  have jh:=zfst (Z:=Z) (i:=i) M0 dvD
  have px:=(Ng g8).1
  have ny:=Zff (L:=(Z.map fst)) (i:=i) g8
  rw[jh] at ny
  have nr:=hk.J.sum
  have ej:=(hk.J.each ((Z.map fst).getD i dvD) (Zwd _ g8)).b8
  rw[jh] at ej
  have ok:=Je (Z.map fst) (show i+1≤(Z.map fst).length from g8)
  have nh:Lu (2,Up (Z.getD i zvD).1.2):=by rw[←jh];exact Zdd hk.J g8
  have mg:∀ W,Below B w W→Zd [169,5,39,3,82,124] w W→Sts Cu W (.slice (Z.getD i zvD).2.1 (Z.getD i zvD).1.2.length (Z.getD i zvD).2.2) (Z.getD i zvD).1.2:=fun W h _=>(hP W h).each i M0
  refine xx 7 _ n i 5 ((hP _ (U3 _ _)).a4 hZ (i:=i) M0) ?_
  refine xlv 0 (Sts.rp (k:=i) (ml _ d5 d9).row Jd zvD M0 Do) ?_
  refine xa 0 [V0 0,V0 0,V0 0,V0 0,S1] 32 fun b6 W6 n6=>?_
  have g6:=n6.Q d5
  refine xsv 1 n6.blk [V0 ((Z.getD i zvD).1.1.1),V0 ((Z.getD i zvD).1.1.2.1),V0 ((Z.getD i zvD).1.1.2.2.1),V0 ((Z.getD i zvD).1.1.2.2.2),.slice ((Z.getD i zvD).2.1) ((Z.getD i zvD).1.2.length) ((Z.getD i zvD).2.2)] fun W7 u7 k7=>?_
  have q5:=u7.j (Zb ho n6.i) n6.blk Do
  refine xx 7 _ n i 1 (Uk (Zf q5) p3 (i:=i) M0).1 ?_
  refine xl 0 ((Uk (Zf q5) p3 (i:=i) M0).2) ?_
  refine xin 4 (↑(Xz (Z.map fst) i):Int) (i:Int) (fun mh=>?_) (fun mh=>?_)
  ·have b7:Xz (Z.map fst) i≠i:=M0
   refine xd 1 (.t B [169,5,39,3,82,124]) ?_
   have c7:=Zb q5 (Za W7)
   refine xx (.e [0,1,2,3,5,6,7,9,10] 11) _ n i 1 (Uk (Zf c7) p3 (i:=i) M0).1 ?_
   refine xm3 0 4 8 12 ?_ ?_ ?_
   ·have d3:=(u7.A (g5.i n6.i) n6.blk Do).i (Za W7)
    refine xb 0 1 d3 ?_
    refine xm2 0 8 12 ?_ ?_
    ·refine xb 0 1 d3 ?_
     refine xl (.o [] 12) ((Uk (Zf c7) p3 (i:=i) M0).2) ?_
     have k3:=Zb (u7.j (Zb m5 n6.i) n6.blk Do) (Za W7)
     refine xx (.e [] 13) _ i (Xz (Z.map fst) i) 1 (Yo (Zf k3) (i:=(Xz (Z.map fst) i)) M0).1 ?_
     refine xl (.o [] 14) ((Yo (Zf k3) (i:=(Xz (Z.map fst) i)) M0).2) ?_
     refine xbs (.o [] 15) 1 [V0 (↑(twR (Z.map fst) (Xz (Z.map fst) i)):Int)] 3 fun b9 W9 n9=>?_
     have ln:=blB (u7.i (blB d5 hBw n6.i) (N0 hBw g6)) hBw (Za W7)
     have lu:=Zb (u7.j (Zb hc n6.i) n6.blk Do) (Za W7)
     have ib:=Zb (u7.j (Zb h6 n6.i) n6.blk Do) (Za W7)
     have dz:=Zb (u7.j (Zb h5 n6.i) n6.blk Do) (Za W7)
     have b8:=a0
     have e4:=Zb k3 n9.i
     have hw:=blB ln hBw n9.i
     refine ybi (.o [] 16) (.t B [169,5,39,3,82,124]) fun _ _ _ _ zJ zQ zo zx zy zK=>Qo (b:=b9) (c:=1) (m:=1) (news:=[V0 (↑(twR (Z.map fst) (Xz (Z.map fst) i)):Int)]) (V0 0) 1 8 (i+1) ((((range (i+1)).map (twR (Z.map fst))).map nv)) zo Tryz.underlying27 K0 rfl Do zx e4 zy n9.blk rfl Y4 Y2 M0 hw.size Y6 (Jq g8) fun kv jz qg nu g2 dw v1=>?_
     have ha:=Zb c7 n9.i
     have z2:=a4.row ha g2
     replace a4:=(a4.grow ha v1)
     have x1:=Zb dz n9.i
     have r6:=a3.row x1 g2
     replace a3:=(a3.grow x1 v1)
     have hp:=Zb lu n9.i
     have cf:=a2.symm.row hp g2
     replace a2:=(a2.symm.grow hp v1).symm
     have v3:=Zb ib n9.i
     have p5:=a0.row v3 g2
     replace a0:=(a0.grow v3 v1)
     have gg:=z2
     have ap:=r6
     have ik:=cf
     have de:=p5
     refine zK _ _ (Xj (dw.mono hBw) g2 e4 Do) ?_
     have b5:=(d3.i n9.i).grown g2 e4 Do
     refine ys (.o [17,18] 19) b5 [P0 ba,.slice kv (i+1) jz,.slice (S3 gc) k k] (.t B [169,5,39,3,82,124]) fun pd o2 oc=>⟨(Zr o2 b5 hbx Do),?_⟩
     refine xwm 7 ((i:Int)+1) (↑(i+1):Int) ?_
     have lv:=(((((hA.i n6.i).q (Q1 (T:=[32]) u7 n6.blk Do) Do).i (Za W7)).i n9.i).T b8 g2 e4).q (Q1 (T:=[82]) o2 b5 Do) Do
     have kd:=o2.j ik b5 Do
     have kr:=o2.j gg b5 Do
     have fm:=o2.j ap b5 Do
     have gz:=o2.j nu b5 Do
     have jd:=o2.j de b5 Do
     have ju:=o2.i (hw.trans (dw.mono hBw)) hbx
     have jv:=(Q6 (((Q3 (d9.trans (Q0 n6.i)) u7 g6).trans (Q0 (Za W7))).trans (Q0 n9.i)) g2 e4).trans (Q1 o2 b5 Do)
     have r1:=o2.A ((((u7.A (c5.i n6.i) n6.blk Do).i (Za W7)).i n9.i).grown g2 e4 Do) b5 Do
     have t8:=o2.A ((((u7.A (c6.i n6.i) n6.blk Do).i (Za W7)).i n9.i).grown g2 e4 Do) b5 Do
     exact ze 2 (j7 _ _ _ ⟨i+1,_,_,rfl,rfl,ju,jv,oc,r1,t8,kr,fm,gz,(by rw[Nd b7];exact kd),jd,(by rw[Lr b7];exact lv),M0,a4,a3,a2,a0⟩ M0)
    refine xl 0 ((Uk (Zf c7) p3 (i:=i) M0).2) ?_
    refine xb (.o [] 8) 1 d3 ?_
    have o7:=Zb (u7.j (Zb m5 n6.i) n6.blk Do) (Za W7)
    refine xx (.e [] 13) _ i (Xz (Z.map fst) i) 1 (Yo (Zf o7) (i:=(Xz (Z.map fst) i)) M0).1 ?_
    refine xl (.o [] 14) ((Yo (Zf o7) (i:=(Xz (Z.map fst) i)) M0).2) ?_
    refine xbs (.o [] 15) 1 [V0 (↑(twR (Z.map fst) (Xz (Z.map fst) i)):Int)] 3 fun nz qf j2=>?_
    have kb:=blB (u7.i (blB d5 hBw n6.i) (N0 hBw g6)) hBw (Za W7)
    have jx:=Zb (u7.j (Zb hc n6.i) n6.blk Do) (Za W7)
    have fp:=Zb (u7.j (Zb h6 n6.i) n6.blk Do) (Za W7)
    have fd:=Zb (u7.j (Zb h5 n6.i) n6.blk Do) (Za W7)
    have b8:=a0
    have e5:=Zb o7 j2.i
    have fb:=blB kb hBw j2.i
    refine ybi (.o [] 16) (.t B [169,5,39,3,82,124]) fun _ _ _ _ zJ zQ zo zx zy zK=>Qo (b:=nz) (c:=1) (m:=1) (news:=[V0 (↑(twR (Z.map fst) (Xz (Z.map fst) i)):Int)]) (V0 0) 1 8 (i+1) ((((range (i+1)).map (twR (Z.map fst))).map nv)) zo Tryz.underlying27 K0 rfl Do zx e5 zy j2.blk rfl Y4 Y2 M0 fb.size Y6 (Jq g8) fun jm jl ot nl g0 iv t6=>?_
    have di:=Zb c7 j2.i
    have cj:=a4.row di g0
    replace a4:=(a4.grow di t6)
    have x4:=Zb fd j2.i
    have t0:=a3.row x4 g0
    replace a3:=(a3.grow x4 t6)
    have eu:=Zb jx j2.i
    have cd:=a2.symm.row eu g0
    replace a2:=(a2.symm.grow eu t6).symm
    have w4:=Zb fp j2.i
    have t3:=a0.row w4 g0
    replace a0:=(a0.grow w4 t6)
    have hq:=cj
    have dd:=t0
    have hh:=cd
    have z5:=t3
    refine zK _ _ (Xj (iv.mono hBw) g0 e5 Do) ?_
    have a9:=(d3.i j2.i).grown g0 e5 Do
    refine ys (.o [17,18] 19) a9 [P0 ba,.slice jm (i+1) jl,.slice (S3 gc) k k] (.t B [169,5,39,3,82,124]) fun qb l0 nt=>⟨(Zr l0 a9 hbx Do),?_⟩
    refine xwm 7 ((i:Int)+1) (↑(i+1):Int) ?_
    have kj:=(((((hA.i n6.i).q (Q1 (T:=[32]) u7 n6.blk Do) Do).i (Za W7)).i j2.i).T b8 g0 e5).q (Q1 (T:=[82]) l0 a9 Do) Do
    have lm:=l0.j hh a9 Do
    have js:=l0.j hq a9 Do
    have fy:=l0.j dd a9 Do
    have ic:=l0.j nl a9 Do
    have fk:=l0.j z5 a9 Do
    have ku:=l0.i (fb.trans (iv.mono hBw)) hbx
    have la:=(Q6 (((Q3 (d9.trans (Q0 n6.i)) u7 g6).trans (Q0 (Za W7))).trans (Q0 j2.i)) g0 e5).trans (Q1 l0 a9 Do)
    have p9:=l0.A ((((u7.A (c5.i n6.i) n6.blk Do).i (Za W7)).i j2.i).grown g0 e5 Do) a9 Do
    have q6:=l0.A ((((u7.A (c6.i n6.i) n6.blk Do).i (Za W7)).i j2.i).grown g0 e5 Do) a9 Do
    exact ze 2 (j7 _ _ _ ⟨i+1,_,_,rfl,rfl,ku,la,nt,p9,q6,js,fy,ic,(by rw[Nd b7];exact lm),fk,(by rw[Lr b7];exact kj),M0,a4,a3,a2,a0⟩ M0)
   ·have c0:=(u7.A (g5.i n6.i) n6.blk Do).i (Za W7)
    refine xb 0 1 c0 ?_
    refine xm2 0 4 12 ?_ ?_
    ·refine xb 0 1 c0 ?_
     refine xl (.o [] 12) ((Uk (Zf c7) p3 (i:=i) M0).2) ?_
     have o4:=Zb (u7.j (Zb m5 n6.i) n6.blk Do) (Za W7)
     refine xx (.e [] 13) _ i (Xz (Z.map fst) i) 1 (Yo (Zf o4) (i:=(Xz (Z.map fst) i)) M0).1 ?_
     refine xl (.o [] 14) ((Yo (Zf o4) (i:=(Xz (Z.map fst) i)) M0).2) ?_
     refine xbs (.o [] 15) 1 [V0 (↑(twR (Z.map fst) (Xz (Z.map fst) i)):Int)] 3 fun mj pv j1=>?_
     have ls:=blB (u7.i (blB d5 hBw n6.i) (N0 hBw g6)) hBw (Za W7)
     have kq:=Zb (u7.j (Zb hc n6.i) n6.blk Do) (Za W7)
     have ey:=Zb (u7.j (Zb h6 n6.i) n6.blk Do) (Za W7)
     have ft:=Zb (u7.j (Zb h5 n6.i) n6.blk Do) (Za W7)
     have b8:=a0
     have e9:=Zb o4 j1.i
     have du:=blB ls hBw j1.i
     refine ybi (.o [] 16) (.t B [169,5,39,3,82,124]) fun _ _ _ _ zJ zQ zo zx zy zK=>Qo (b:=mj) (c:=1) (m:=1) (news:=[V0 (↑(twR (Z.map fst) (Xz (Z.map fst) i)):Int)]) (V0 0) 1 8 (i+1) ((((range (i+1)).map (twR (Z.map fst))).map nv)) zo Tryz.underlying27 K0 rfl Do zx e9 zy j1.blk rfl Y4 Y2 M0 du.size Y6 (Jq g8) fun kl lt qd nc f6 dp s8=>?_
     have gi:=Zb c7 j1.i
     have az:=a4.row gi f6
     replace a4:=(a4.grow gi s8)
     have w3:=Zb ft j1.i
     have r5:=a3.row w3 f6
     replace a3:=(a3.grow w3 s8)
     have iy:=Zb kq j1.i
     have ay:=a2.symm.row iy f6
     replace a2:=(a2.symm.grow iy s8).symm
     have w8:=Zb ey j1.i
     have q0:=a0.row w8 f6
     replace a0:=(a0.grow w8 s8)
     have fu:=az
     have au:=r5
     have fw:=ay
     have bz:=q0
     refine zK _ _ (Xj (dp.mono hBw) f6 e9 Do) ?_
     have b4:=(c0.i j1.i).grown f6 e9 Do
     refine ys (.o [17,18] 19) b4 [P0 ba,.slice kl (i+1) lt,.slice (S3 gc) k k] (.t B [169,5,39,3,82,124]) fun pe m8 ns=>⟨(Zr m8 b4 hbx Do),?_⟩
     refine xwm 7 ((i:Int)+1) (↑(i+1):Int) ?_
     have ji:=(((((hA.i n6.i).q (Q1 (T:=[32]) u7 n6.blk Do) Do).i (Za W7)).i j1.i).T b8 f6 e9).q (Q1 (T:=[82]) m8 b4 Do) Do
     have ff:=m8.j fw b4 Do
     have ip:=m8.j fu b4 Do
     have bp:=m8.j au b4 Do
     have dm:=m8.j nc b4 Do
     have z8:=m8.j bz b4 Do
     have gl:=m8.i (du.trans (dp.mono hBw)) hbx
     have ko:=(Q6 (((Q3 (d9.trans (Q0 n6.i)) u7 g6).trans (Q0 (Za W7))).trans (Q0 j1.i)) f6 e9).trans (Q1 m8 b4 Do)
     have q3:=m8.A ((((u7.A (c5.i n6.i) n6.blk Do).i (Za W7)).i j1.i).grown f6 e9 Do) b4 Do
     have q4:=m8.A ((((u7.A (c6.i n6.i) n6.blk Do).i (Za W7)).i j1.i).grown f6 e9 Do) b4 Do
     exact ze 2 (j7 _ _ _ ⟨i+1,_,_,rfl,rfl,gl,ko,ns,q3,q4,ip,bp,dm,(by rw[Nd b7];exact ff),z8,(by rw[Lr b7];exact ji),M0,a4,a3,a2,a0⟩ M0)
    refine xl 0 ((Uk (Zf c7) p3 (i:=i) M0).2) ?_
    have g3:=Zb (u7.j (Zb m5 n6.i) n6.blk Do) (Za W7)
    refine xx (.e [] 13) _ i (Xz (Z.map fst) i) 1 (Yo (Zf g3) (i:=(Xz (Z.map fst) i)) M0).1 ?_
    refine xm2 0 4 14 ?_ ?_
    ·refine xb 0 1 c0 ?_
     refine xl (.o [] 14) ((Yo (Zf g3) (i:=(Xz (Z.map fst) i)) M0).2) ?_
     refine xbs (.o [] 15) 1 [V0 (↑(twR (Z.map fst) (Xz (Z.map fst) i)):Int)] 3 fun na ol j4=>?_
     have el:=blB (u7.i (blB d5 hBw n6.i) (N0 hBw g6)) hBw (Za W7)
     have eq:=Zb (u7.j (Zb hc n6.i) n6.blk Do) (Za W7)
     have bq:=Zb (u7.j (Zb h6 n6.i) n6.blk Do) (Za W7)
     have z4:=Zb (u7.j (Zb h5 n6.i) n6.blk Do) (Za W7)
     have b8:=a0
     have e7:=Zb g3 j4.i
     have x6:=blB el hBw j4.i
     refine ybi (.o [] 16) (.t B [169,5,39,3,82,124]) fun _ _ _ _ zJ zQ zo zx zy zK=>Qo (b:=na) (c:=1) (m:=1) (news:=[V0 (↑(twR (Z.map fst) (Xz (Z.map fst) i)):Int)]) (V0 0) 1 8 (i+1) ((((range (i+1)).map (twR (Z.map fst))).map nv)) zo Tryz.underlying27 K0 rfl Do zx e7 zy j4.blk rfl Y4 Y2 M0 x6.size Y6 (Jq g8) fun ll ka ph mv f4 ix p7=>?_
     have v6:=Zb c7 j4.i
     have aa:=a4.row v6 f4
     replace a4:=(a4.grow v6 p7)
     have o3:=Zb z4 j4.i
     have u8:=a3.row o3 f4
     replace a3:=(a3.grow o3 p7)
     have x8:=Zb eq j4.i
     have bw:=a2.symm.row x8 f4
     replace a2:=(a2.symm.grow x8 p7).symm
     have n5:=Zb bq j4.i
     have u3:=a0.row n5 f4
     replace a0:=(a0.grow n5 p7)
     have fo:=aa
     have cv:=u8
     have ih:=bw
     have z3:=u3
     refine zK _ _ (Xj (ix.mono hBw) f4 e7 Do) ?_
     have b3:=(c0.i j4.i).grown f4 e7 Do
     refine ys (.o [17,18] 19) b3 [P0 ba,.slice ll (i+1) ka,.slice (S3 gc) k k] (.t B [169,5,39,3,82,124]) fun py m1 np=>⟨(Zr m1 b3 hbx Do),?_⟩
     refine xwm 7 ((i:Int)+1) (↑(i+1):Int) ?_
     have lg:=(((((hA.i n6.i).q (Q1 (T:=[32]) u7 n6.blk Do) Do).i (Za W7)).i j4.i).T b8 f4 e7).q (Q1 (T:=[82]) m1 b3 Do) Do
     have iw:=m1.j ih b3 Do
     have ea:=m1.j fo b3 Do
     have af:=m1.j cv b3 Do
     have ec:=m1.j mv b3 Do
     have bd:=m1.j z3 b3 Do
     have ez:=m1.i (x6.trans (ix.mono hBw)) hbx
     have kt:=(Q6 (((Q3 (d9.trans (Q0 n6.i)) u7 g6).trans (Q0 (Za W7))).trans (Q0 j4.i)) f4 e7).trans (Q1 m1 b3 Do)
     have q9:=m1.A ((((u7.A (c5.i n6.i) n6.blk Do).i (Za W7)).i j4.i).grown f4 e7 Do) b3 Do
     have q2:=m1.A ((((u7.A (c6.i n6.i) n6.blk Do).i (Za W7)).i j4.i).grown f4 e7 Do) b3 Do
     exact ze 2 (j7 _ _ _ ⟨i+1,_,_,rfl,rfl,ez,kt,np,q9,q2,ea,af,ec,(by rw[Nd b7];exact iw),bd,(by rw[Lr b7];exact lg),M0,a4,a3,a2,a0⟩ M0)
    refine xl 0 ((Yo (Zf g3) (i:=(Xz (Z.map fst) i)) M0).2) ?_
    refine xm2 0 4 15 ?_ ?_
    ·refine xb 0 1 c0 ?_
     refine xbs (.o [] 15) 1 [V0 (↑(twR (Z.map fst) (Xz (Z.map fst) i)):Int)] 3 fun od pm i8=>?_
     have dt:=blB (u7.i (blB d5 hBw n6.i) (N0 hBw g6)) hBw (Za W7)
     have ee:=Zb (u7.j (Zb hc n6.i) n6.blk Do) (Za W7)
     have co:=Zb (u7.j (Zb h6 n6.i) n6.blk Do) (Za W7)
     have y6:=Zb (u7.j (Zb h5 n6.i) n6.blk Do) (Za W7)
     have b8:=a0
     have e6:=Zb g3 i8.i
     have w5:=blB dt hBw i8.i
     refine ybi (.o [] 16) (.t B [169,5,39,3,82,124]) fun _ _ _ _ zJ zQ zo zx zy zK=>Qo (b:=od) (c:=1) (m:=1) (news:=[V0 (↑(twR (Z.map fst) (Xz (Z.map fst) i)):Int)]) (V0 0) 1 8 (i+1) ((((range (i+1)).map (twR (Z.map fst))).map nv)) zo Tryz.underlying27 K0 rfl Do zx e6 zy i8.blk rfl Y4 Y2 M0 w5.size Y6 (Jq g8) fun jk kf pf mu f7 hz u9=>?_
     have y3:=Zb c7 i8.i
     have aq:=a4.row y3 f7
     replace a4:=(a4.grow y3 u9)
     have m6:=Zb y6 i8.i
     have p6:=a3.row m6 f7
     replace a3:=(a3.grow m6 u9)
     have x7:=Zb ee i8.i
     have cl:=a2.symm.row x7 f7
     replace a2:=(a2.symm.grow x7 u9).symm
     have o8:=Zb co i8.i
     have t5:=a0.row o8 f7
     replace a0:=(a0.grow o8 u9)
     have gq:=aq
     have dc:=p6
     have fj:=cl
     have ab:=t5
     refine zK _ _ (Xj (hz.mono hBw) f7 e6 Do) ?_
     have b0:=(c0.i i8.i).grown f7 e6 Do
     refine ys (.o [17,18] 19) b0 [P0 ba,.slice jk (i+1) kf,.slice (S3 gc) k k] (.t B [169,5,39,3,82,124]) fun pr l8 nw=>⟨(Zr l8 b0 hbx Do),?_⟩
     refine xwm 7 ((i:Int)+1) (↑(i+1):Int) ?_
     have jt:=(((((hA.i n6.i).q (Q1 (T:=[32]) u7 n6.blk Do) Do).i (Za W7)).i i8.i).T b8 f7 e6).q (Q1 (T:=[82]) l8 b0 Do) Do
     have gk:=l8.j fj b0 Do
     have ew:=l8.j gq b0 Do
     have ae:=l8.j dc b0 Do
     have ef:=l8.j mu b0 Do
     have cu:=l8.j ab b0 Do
     have ge:=l8.i (w5.trans (hz.mono hBw)) hbx
     have lc:=(Q6 (((Q3 (d9.trans (Q0 n6.i)) u7 g6).trans (Q0 (Za W7))).trans (Q0 i8.i)) f7 e6).trans (Q1 l8 b0 Do)
     have r0:=l8.A ((((u7.A (c5.i n6.i) n6.blk Do).i (Za W7)).i i8.i).grown f7 e6 Do) b0 Do
     have q7:=l8.A ((((u7.A (c6.i n6.i) n6.blk Do).i (Za W7)).i i8.i).grown f7 e6 Do) b0 Do
     exact ze 2 (j7 _ _ _ ⟨i+1,_,_,rfl,rfl,ge,lc,nw,r0,q7,ew,ae,ef,(by rw[Nd b7];exact gk),cu,(by rw[Lr b7];exact jt),M0,a4,a3,a2,a0⟩ M0)
    refine xbs 0 1 [V0 (↑(twR (Z.map fst) (Xz (Z.map fst) i)):Int)] 3 fun ms og j5=>?_
    have gv:=blB (u7.i (blB d5 hBw n6.i) (N0 hBw g6)) hBw (Za W7)
    have eg:=Zb (u7.j (Zb hc n6.i) n6.blk Do) (Za W7)
    have bn:=Zb (u7.j (Zb h6 n6.i) n6.blk Do) (Za W7)
    have bo:=Zb (u7.j (Zb h5 n6.i) n6.blk Do) (Za W7)
    have i2:=c0.i j5.i
    refine xb (.o [] 4) 1 i2 ?_
    have b8:=a0
    have d1:=Zb g3 j5.i
    have v5:=blB gv hBw j5.i
    refine ybi (.o [] 16) (.t B [169,5,39,3,82,124]) fun _ _ _ _ zJ zQ zo zx zy zK=>Qo (b:=ms) (c:=1) (m:=1) (news:=[V0 (↑(twR (Z.map fst) (Xz (Z.map fst) i)):Int)]) (V0 0) 1 8 (i+1) ((((range (i+1)).map (twR (Z.map fst))).map nv)) zo Tryz.underlying27 K0 rfl Do zx d1 zy j5.blk rfl Y4 Y2 M0 v5.size Y6 (Jq g8) fun ki kp oe mi f2 ij u4=>?_
    have w9:=Zb c7 j5.i
    have dg:=a4.row w9 f2
    replace a4:=(a4.grow w9 u4)
    have m9:=Zb bo j5.i
    have u5:=a3.row m9 f2
    replace a3:=(a3.grow m9 u4)
    have y2:=Zb eg j5.i
    have bt:=a2.symm.row y2 f2
    replace a2:=(a2.symm.grow y2 u4).symm
    have k4:=Zb bn j5.i
    have s4:=a0.row k4 f2
    replace a0:=(a0.grow k4 u4)
    have fa:=dg
    have ak:=u5
    have hd:=bt
    have da:=s4
    refine zK _ _ (Xj (ij.mono hBw) f2 d1 Do) ?_
    have b2:=i2.grown f2 d1 Do
    refine ys (.o [17,18] 19) b2 [P0 ba,.slice ki (i+1) kp,.slice (S3 gc) k k] (.t B [169,5,39,3,82,124]) fun pu o6 ne=>⟨(Zr o6 b2 hbx Do),?_⟩
    refine xwm 7 ((i:Int)+1) (↑(i+1):Int) ?_
    have kh:=(((((hA.i n6.i).q (Q1 (T:=[32]) u7 n6.blk Do) Do).i (Za W7)).i j5.i).T b8 f2 d1).q (Q1 (T:=[82]) o6 b2 Do) Do
    have im:=o6.j hd b2 Do
    have dl:=o6.j fa b2 Do
    have cx:=o6.j ak b2 Do
    have gj:=o6.j mi b2 Do
    have cp:=o6.j da b2 Do
    have gu:=o6.i (v5.trans (ij.mono hBw)) hbx
    have jy:=(Q6 (((Q3 (d9.trans (Q0 n6.i)) u7 g6).trans (Q0 (Za W7))).trans (Q0 j5.i)) f2 d1).trans (Q1 o6 b2 Do)
    have s2:=o6.A ((((u7.A (c5.i n6.i) n6.blk Do).i (Za W7)).i j5.i).grown f2 d1 Do) b2 Do
    have t9:=o6.A ((((u7.A (c6.i n6.i) n6.blk Do).i (Za W7)).i j5.i).grown f2 d1 Do) b2 Do
    exact ze 2 (j7 _ _ _ ⟨i+1,_,_,rfl,rfl,gu,jy,ne,s2,t9,dl,cx,gj,(by rw[Nd b7];exact im),cp,(by rw[Lr b7];exact kh),M0,a4,a3,a2,a0⟩ M0)
   refine xl 0 ((Uk (Zf c7) p3 (i:=i) M0).2) ?_
   refine xm2 0 4 8 ?_ ?_
   ·have f0:=(u7.A (g5.i n6.i) n6.blk Do).i (Za W7)
    refine xb 0 1 f0 ?_
    refine xb (.o [] 8) 1 f0 ?_
    have h9:=Zb (u7.j (Zb m5 n6.i) n6.blk Do) (Za W7)
    refine xx (.e [] 13) _ i (Xz (Z.map fst) i) 1 (Yo (Zf h9) (i:=(Xz (Z.map fst) i)) M0).1 ?_
    refine xl (.o [] 14) ((Yo (Zf h9) (i:=(Xz (Z.map fst) i)) M0).2) ?_
    refine xbs (.o [] 15) 1 [V0 (↑(twR (Z.map fst) (Xz (Z.map fst) i)):Int)] 3 fun mx qe j0=>?_
    have eb:=blB (u7.i (blB d5 hBw n6.i) (N0 hBw g6)) hBw (Za W7)
    have fv:=Zb (u7.j (Zb hc n6.i) n6.blk Do) (Za W7)
    have cb:=Zb (u7.j (Zb h6 n6.i) n6.blk Do) (Za W7)
    have bu:=Zb (u7.j (Zb h5 n6.i) n6.blk Do) (Za W7)
    have b8:=a0
    have c9:=Zb h9 j0.i
    have x0:=blB eb hBw j0.i
    refine ybi (.o [] 16) (.t B [169,5,39,3,82,124]) fun _ _ _ _ zJ zQ zo zx zy zK=>Qo (b:=mx) (c:=1) (m:=1) (news:=[V0 (↑(twR (Z.map fst) (Xz (Z.map fst) i)):Int)]) (V0 0) 1 8 (i+1) ((((range (i+1)).map (twR (Z.map fst))).map nv)) zo Tryz.underlying27 K0 rfl Do zx c9 zy j0.blk rfl Y4 Y2 M0 x0.size Y6 (Jq g8) fun lo ld ov mr f5 dv u6=>?_
    have y5:=Zb c7 j0.i
    have bf:=a4.row y5 f5
    replace a4:=(a4.grow y5 u6)
    have m3:=Zb bu j0.i
    have u1:=a3.row m3 f5
    replace a3:=(a3.grow m3 u6)
    have v7:=Zb fv j0.i
    have y8:=a2.symm.row v7 f5
    replace a2:=(a2.symm.grow v7 u6).symm
    have l6:=Zb cb j0.i
    have v2:=a0.row l6 f5
    replace a0:=(a0.grow l6 u6)
    have ii:=bf
    have al:=u1
    have dj:=y8
    have ad:=v2
    refine zK _ _ (Xj (dv.mono hBw) f5 c9 Do) ?_
    have a7:=(f0.i j0.i).grown f5 c9 Do
    refine ys (.o [17,18] 19) a7 [P0 ba,.slice lo (i+1) ld,.slice (S3 gc) k k] (.t B [169,5,39,3,82,124]) fun ou m4 mp=>⟨(Zr m4 a7 hbx Do),?_⟩
    refine xwm 7 ((i:Int)+1) (↑(i+1):Int) ?_
    have kc:=(((((hA.i n6.i).q (Q1 (T:=[32]) u7 n6.blk Do) Do).i (Za W7)).i j0.i).T b8 f5 c9).q (Q1 (T:=[82]) m4 a7 Do) Do
    have gr:=m4.j dj a7 Do
    have gd:=m4.j ii a7 Do
    have y7:=m4.j al a7 Do
    have hv:=m4.j mr a7 Do
    have db:=m4.j ad a7 Do
    have eh:=m4.i (x0.trans (dv.mono hBw)) hbx
    have jp:=(Q6 (((Q3 (d9.trans (Q0 n6.i)) u7 g6).trans (Q0 (Za W7))).trans (Q0 j0.i)) f5 c9).trans (Q1 m4 a7 Do)
    have s9:=m4.A ((((u7.A (c5.i n6.i) n6.blk Do).i (Za W7)).i j0.i).grown f5 c9 Do) a7 Do
    have q8:=m4.A ((((u7.A (c6.i n6.i) n6.blk Do).i (Za W7)).i j0.i).grown f5 c9 Do) a7 Do
    exact ze 2 (j7 _ _ _ ⟨i+1,_,_,rfl,rfl,eh,jp,mp,s9,q8,gd,y7,hv,(by rw[Nd b7];exact gr),db,(by rw[Lr b7];exact kc),M0,a4,a3,a2,a0⟩ M0)
   have c4:=(u7.A (g5.i n6.i) n6.blk Do).i (Za W7)
   refine xb 0 1 c4 ?_
   have e1:=Zb (u7.j (Zb m5 n6.i) n6.blk Do) (Za W7)
   refine xx (.e [] 13) _ i (Xz (Z.map fst) i) 1 (Yo (Zf e1) (i:=(Xz (Z.map fst) i)) M0).1 ?_
   refine xm2 0 4 14 ?_ ?_
   ·refine xb 0 1 c4 ?_
    refine xl (.o [] 14) ((Yo (Zf e1) (i:=(Xz (Z.map fst) i)) M0).2) ?_
    refine xbs (.o [] 15) 1 [V0 (↑(twR (Z.map fst) (Xz (Z.map fst) i)):Int)] 3 fun mt pw j8=>?_
    have jc:=blB (u7.i (blB d5 hBw n6.i) (N0 hBw g6)) hBw (Za W7)
    have iq:=Zb (u7.j (Zb hc n6.i) n6.blk Do) (Za W7)
    have ao:=Zb (u7.j (Zb h6 n6.i) n6.blk Do) (Za W7)
    have av:=Zb (u7.j (Zb h5 n6.i) n6.blk Do) (Za W7)
    have b8:=a0
    have d2:=Zb e1 j8.i
    have y0:=blB jc hBw j8.i
    refine ybi (.o [] 16) (.t B [169,5,39,3,82,124]) fun _ _ _ _ zJ zQ zo zx zy zK=>Qo (b:=mt) (c:=1) (m:=1) (news:=[V0 (↑(twR (Z.map fst) (Xz (Z.map fst) i)):Int)]) (V0 0) 1 8 (i+1) ((((range (i+1)).map (twR (Z.map fst))).map nv)) zo Tryz.underlying27 K0 rfl Do zx d2 zy j8.blk rfl Y4 Y2 M0 y0.size Y6 (Jq g8) fun jj le om mm f1 ei s7=>?_
    have x9:=Zb c7 j8.i
    have cn:=a4.row x9 f1
    replace a4:=(a4.grow x9 s7)
    have o1:=Zb av j8.i
    have u0:=a3.row o1 f1
    replace a3:=(a3.grow o1 s7)
    have w7:=Zb iq j8.i
    have bk:=a2.symm.row w7 f1
    replace a2:=(a2.symm.grow w7 s7).symm
    have k0:=Zb ao j8.i
    have p8:=a0.row k0 f1
    replace a0:=(a0.grow k0 s7)
    have fg:=cn
    have aj:=u0
    have ex:=bk
    have z6:=p8
    refine zK _ _ (Xj (ei.mono hBw) f1 d2 Do) ?_
    have a8:=(c4.i j8.i).grown f1 d2 Do
    refine ys (.o [17,18] 19) a8 [P0 ba,.slice jj (i+1) le,.slice (S3 gc) k k] (.t B [169,5,39,3,82,124]) fun pn l3 nm=>⟨(Zr l3 a8 hbx Do),?_⟩
    refine xwm 7 ((i:Int)+1) (↑(i+1):Int) ?_
    have ky:=(((((hA.i n6.i).q (Q1 (T:=[32]) u7 n6.blk Do) Do).i (Za W7)).i j8.i).T b8 f1 d2).q (Q1 (T:=[82]) l3 a8 Do) Do
    have gt:=l3.j ex a8 Do
    have io:=l3.j fg a8 Do
    have z7:=l3.j aj a8 Do
    have fs:=l3.j mm a8 Do
    have ce:=l3.j z6 a8 Do
    have dr:=l3.i (y0.trans (ei.mono hBw)) hbx
    have ks:=(Q6 (((Q3 (d9.trans (Q0 n6.i)) u7 g6).trans (Q0 (Za W7))).trans (Q0 j8.i)) f1 d2).trans (Q1 l3 a8 Do)
    have s0:=l3.A ((((u7.A (c5.i n6.i) n6.blk Do).i (Za W7)).i j8.i).grown f1 d2 Do) a8 Do
    have r2:=l3.A ((((u7.A (c6.i n6.i) n6.blk Do).i (Za W7)).i j8.i).grown f1 d2 Do) a8 Do
    exact ze 2 (j7 _ _ _ ⟨i+1,_,_,rfl,rfl,dr,ks,nm,s0,r2,io,z7,fs,(by rw[Nd b7];exact gt),ce,(by rw[Lr b7];exact ky),M0,a4,a3,a2,a0⟩ M0)
   refine xl 0 ((Yo (Zf e1) (i:=(Xz (Z.map fst) i)) M0).2) ?_
   refine xm2 0 4 15 ?_ ?_
   ·refine xb 0 1 c4 ?_
    refine xbs (.o [] 15) 1 [V0 (↑(twR (Z.map fst) (Xz (Z.map fst) i)):Int)] 3 fun oa oy i9=>?_
    have gm:=blB (u7.i (blB d5 hBw n6.i) (N0 hBw g6)) hBw (Za W7)
    have ig:=Zb (u7.j (Zb hc n6.i) n6.blk Do) (Za W7)
    have bj:=Zb (u7.j (Zb h6 n6.i) n6.blk Do) (Za W7)
    have cm:=Zb (u7.j (Zb h5 n6.i) n6.blk Do) (Za W7)
    have b8:=a0
    have c8:=Zb e1 i9.i
    have w2:=blB gm hBw i9.i
    refine ybi (.o [] 16) (.t B [169,5,39,3,82,124]) fun _ _ _ _ zJ zQ zo zx zy zK=>Qo (b:=oa) (c:=1) (m:=1) (news:=[V0 (↑(twR (Z.map fst) (Xz (Z.map fst) i)):Int)]) (V0 0) 1 8 (i+1) ((((range (i+1)).map (twR (Z.map fst))).map nv)) zo Tryz.underlying27 K0 rfl Do zx c8 zy i9.blk rfl Y4 Y2 M0 w2.size Y6 (Jq g8) fun kn km op nj f9 et s5=>?_
    have v9:=Zb c7 i9.i
    have ct:=a4.row v9 f9
    replace a4:=(a4.grow v9 s5)
    have p0:=Zb cm i9.i
    have t1:=a3.row p0 f9
    replace a3:=(a3.grow p0 s5)
    have x2:=Zb ig i9.i
    have ch:=a2.symm.row x2 f9
    replace a2:=(a2.symm.grow x2 s5).symm
    have l7:=Zb bj i9.i
    have s3:=a0.row l7 f9
    replace a0:=(a0.grow l7 s5)
    have es:=ct
    have aw:=t1
    have ds:=ch
    have cz:=s3
    refine zK _ _ (Xj (et.mono hBw) f9 c8 Do) ?_
    have a5:=(c4.i i9.i).grown f9 c8 Do
    refine ys (.o [17,18] 19) a5 [P0 ba,.slice kn (i+1) km,.slice (S3 gc) k k] (.t B [169,5,39,3,82,124]) fun pg k5 mn=>⟨(Zr k5 a5 hbx Do),?_⟩
    refine xwm 7 ((i:Int)+1) (↑(i+1):Int) ?_
    have em:=(((((hA.i n6.i).q (Q1 (T:=[32]) u7 n6.blk Do) Do).i (Za W7)).i i9.i).T b8 f9 c8).q (Q1 (T:=[82]) k5 a5 Do) Do
    have gy:=k5.j ds a5 Do
    have ed:=k5.j es a5 Do
    have cw:=k5.j aw a5 Do
    have ek:=k5.j nj a5 Do
    have cg:=k5.j cz a5 Do
    have gx:=k5.i (w2.trans (et.mono hBw)) hbx
    have lb:=(Q6 (((Q3 (d9.trans (Q0 n6.i)) u7 g6).trans (Q0 (Za W7))).trans (Q0 i9.i)) f9 c8).trans (Q1 k5 a5 Do)
    have q1:=k5.A ((((u7.A (c5.i n6.i) n6.blk Do).i (Za W7)).i i9.i).grown f9 c8 Do) a5 Do
    have t2:=k5.A ((((u7.A (c6.i n6.i) n6.blk Do).i (Za W7)).i i9.i).grown f9 c8 Do) a5 Do
    exact ze 2 (j7 _ _ _ ⟨i+1,_,_,rfl,rfl,gx,lb,mn,q1,t2,ed,cw,ek,(by rw[Nd b7];exact gy),cg,(by rw[Lr b7];exact em),M0,a4,a3,a2,a0⟩ M0)
   refine xbs 0 1 [V0 (↑(twR (Z.map fst) (Xz (Z.map fst) i)):Int)] 3 fun nb po j3=>?_
   have iu:=blB (u7.i (blB d5 hBw n6.i) (N0 hBw g6)) hBw (Za W7)
   have dk:=Zb (u7.j (Zb hc n6.i) n6.blk Do) (Za W7)
   have cr:=Zb (u7.j (Zb h6 n6.i) n6.blk Do) (Za W7)
   have cq:=Zb (u7.j (Zb h5 n6.i) n6.blk Do) (Za W7)
   have g9:=c4.i j3.i
   refine xb (.o [] 4) 1 g9 ?_
   have b8:=a0
   have d0:=Zb e1 j3.i
   have v8:=blB iu hBw j3.i
   refine ybi (.o [] 16) (.t B [169,5,39,3,82,124]) fun _ _ _ _ zJ zQ zo zx zy zK=>Qo (b:=nb) (c:=1) (m:=1) (news:=[V0 (↑(twR (Z.map fst) (Xz (Z.map fst) i)):Int)]) (V0 0) 1 8 (i+1) ((((range (i+1)).map (twR (Z.map fst))).map nv)) zo Tryz.underlying27 K0 rfl Do zx d0 zy j3.blk rfl Y4 Y2 M0 v8.size Y6 (Jq g8) fun kw kz pt mw g1 ir r3=>?_
   have x3:=Zb c7 j3.i
   have dh:=a4.row x3 g1
   replace a4:=(a4.grow x3 r3)
   have o5:=Zb cq j3.i
   have s6:=a3.row o5 g1
   replace a3:=(a3.grow o5 r3)
   have w6:=Zb dk j3.i
   have y9:=a2.symm.row w6 g1
   replace a2:=(a2.symm.grow w6 r3).symm
   have m7:=Zb cr j3.i
   have t7:=a0.row m7 g1
   replace a0:=(a0.grow m7 r3)
   have gs:=dh
   have bh:=s6
   have fi:=y9
   have z0:=t7
   refine zK _ _ (Xj (ir.mono hBw) g1 d0 Do) ?_
   have a6:=g9.grown g1 d0 Do
   refine ys (.o [17,18] 19) a6 [P0 ba,.slice kw (i+1) kz,.slice (S3 gc) k k] (.t B [169,5,39,3,82,124]) fun oo k9 mo=>⟨(Zr k9 a6 hbx Do),?_⟩
   refine xwm 7 ((i:Int)+1) (↑(i+1):Int) ?_
   have ga:=(((((hA.i n6.i).q (Q1 (T:=[32]) u7 n6.blk Do) Do).i (Za W7)).i j3.i).T b8 g1 d0).q (Q1 (T:=[82]) k9 a6 Do) Do
   have gf:=k9.j fi a6 Do
   have il:=k9.j gs a6 Do
   have df:=k9.j bh a6 Do
   have hu:=k9.j mw a6 Do
   have bi:=k9.j z0 a6 Do
   have dy:=k9.i (v8.trans (ir.mono hBw)) hbx
   have fr:=(Q6 (((Q3 (d9.trans (Q0 n6.i)) u7 g6).trans (Q0 (Za W7))).trans (Q0 j3.i)) g1 d0).trans (Q1 k9 a6 Do)
   have n8:=k9.A ((((u7.A (c5.i n6.i) n6.blk Do).i (Za W7)).i j3.i).grown g1 d0 Do) a6 Do
   have k1:=k9.A ((((u7.A (c6.i n6.i) n6.blk Do).i (Za W7)).i j3.i).grown g1 d0 Do) a6 Do
   exact ze 2 (j7 _ _ _ ⟨i+1,_,_,rfl,rfl,dy,fr,mo,n8,k1,il,df,hu,(by rw[Nd b7];exact gf),bi,(by rw[Lr b7];exact ga),M0,a4,a3,a2,a0⟩ M0)
  have b7:Xz (Z.map fst) i=i:=M0
  have kk:twT (Z.map fst) i++[(2,Up (Z.getD i zvD).1.2)]=twT (Z.map fst) (i+1):=by rw[So b7,jh]
  have mc:Xr (twT (Z.map fst) i++[(2,Up (Z.getD i zvD).1.2)])=twN (Z.map fst) (i+1):=by rw[kk];rfl
  refine xb 11 4 k7 ?_
  have ac:=u7.j (Zb h5 n6.i) n6.blk Do
  have br:=u7.j (Zb m5 n6.i) n6.blk Do
  have iz:=u7.j (Zb hc n6.i) n6.blk Do
  have bb:=u7.j (Zb h6 n6.i) n6.blk Do
  have er:=(hA.i n6.i).q (Q1 (T:=[32]) u7 n6.blk Do) Do
  have je:=u7.i (blB d5 hBw n6.i) (N0 hBw g6)
  have dq:=(Q3 (d9.trans (Q0 n6.i)) u7 g6)
  have l4:=u7.A (g5.i n6.i) n6.blk Do
  have l9:=u7.A (c5.i n6.i) n6.blk Do
  have l2:=u7.A (c6.i n6.i) n6.blk Do
  refine zl 5 95 (fun zm lf V=>∃ (j:Nat) (p1:O0) (c1:Nat),lf=[(0,P0 bx),(2,P0 be),(6,.slice qo n eo),(7,.slice qn n dn),(8,V0 (i:Int)),(10,.slice p1 j c1),(19,.slice p n c),(20,V0 (n:Int)),(21,V0 (i:Int)),(52,.slice ((Z.getD i zvD).2.1) ((Z.getD i zvD).1.2.length) ((Z.getD i zvD).2.2)),(53,V0 (↑((Z.getD i zvD).1.2.length):Int)),(54,V0 (j:Int))]∧zm=(Z.getD i zvD).1.2.length-((j:Int)).toNat∧Below B w V∧Zd [169,5,39,3,82,124] w V∧Blk V bx ([P0 ba,.slice rp i rc,.slice (S3 gc) k k]) 82∧Blk V be ([.nilIface]) 39∧Blk V b1 ([V0 t,V0 u,V0 v,V0 (x:Int),.slice p n c]) 24∧Blk V b6 ([V0 ((Z.getD i zvD).1.1.1),V0 ((Z.getD i zvD).1.1.2.1),V0 ((Z.getD i zvD).1.1.2.2.1),V0 ((Z.getD i zvD).1.1.2.2.2),.slice ((Z.getD i zvD).2.1) ((Z.getD i zvD).1.2.length) ((Z.getD i zvD).2.2)]) 32∧V.ownsRow w.heap.size 3 1 (.slice qo n eo) n ((owL (Z.map fst)).map nv)∧V.ownsRow w.heap.size 3 1 (.slice qn n dn) n ((shN (Z.map fst)).map nv)∧V.ownsRow w.heap.size 3 1 (.slice rp i rc) i (((range i).map (twR (Z.map fst))).map nv)∧V.ownsRow B 3 1 (.slice (S3 gc) k k) k ((Zlt (Z.map fst) k i).map V0)∧V.ownsRow B 3 1 (.slice pa N ca) N ((Zb9 1 N).map V0)∧AlF B ba b g nn cc pa ca N bs (twT (Z.map fst) i) V∧V.ownsRow w.heap.size 124 3 (.slice p1 j c1) j (((Up (Z.getD i zvD).1.2).take j).flatMap Ki)∧j≤(Z.getD i zvD).1.2.length) ⟨0,none,0,rfl,rfl,je,dq,l4,l9,l2,k7,q5,ac,br,iz,bb,er,A8 _ _ _ _,A5 _⟩ ?_
  rintro _ _ oq ⟨j,p1,c1,rfl,rfl,h3,i3,i0,n7,h8,bc,ho,h5,m5,hc,h6,hA,hl,hj⟩ pb jw pj
  refine xid 6 ((j:Int)<(↑((Z.getD i zvD).1.2.length):Int)) (fun lh=>?_) (fun lh=>?_)
  ·have pp:=ej.each ((Z.getD i zvD).1.2.getD j mpD) (Zwd _ M0)
   refine xx 6 _ ((Z.getD i zvD).1.2.length) j 3 (Sts.cell ((hP _ (U3 _ _)).each i M0) Jv mpD (k:=j) (i:=0) M0 rfl).1 ?_
   refine xlv 0 (Sts.rp (k:=j) (mg _ h3 i3) Jv mpD M0 Do) ?_
   refine xa 0 [V0 0,V0 0,V0 0] 63 fun oi pc e2=>?_
   have md:=e2.Q h3
   refine xsv 0 e2.blk [V0 (((Z.getD i zvD).1.2.getD j mpD).1),V0 (((Z.getD i zvD).1.2.getD j mpD).2.1),V0 (((Z.getD i zvD).1.2.getD j mpD).2.2)] fun i5 i7 nf=>?_
   refine xd 2 (.t B [169,5,39,3,82,124]) ?_
   have l1:=nf.i (Za i5)
   refine xbt (.e [0,1] 2) 0 B [169,5,39,3,82,124] l1 ?_
   refine xbt (.e [3] 4) 1 B [169,5,39,3,82,124] l1 ?_
   refine xbt (.e [5] 6) 2 B [169,5,39,3,82,124] l1 ?_
   refine xr (.o [] 7) (Zs2 ((Z.getD i zvD).1.2.getD j mpD) _ ⟨M0,M0⟩ ⟨M0,M0⟩) fun oh d7=>?_
   refine xbs (.o [8] 9) 1 [V0 (((Z.getD i zvD).1.2.getD j mpD).1),.string ⟨(Zta ((Z.getD i zvD).1.2.getD j mpD)).toArray⟩,V0 0] 124 fun pl qa i6=>?_
   have gw:=blB (blB (i7.i (blB h3 hBw e2.i) (N0 hBw md)) hBw (Za i5)) hBw d7
   have jr:=Zb (Zb (i7.j (Zb hl e2.i) e2.blk Do) (Za i5)) d7
   have d8:=Zb jr i6.i
   have y1:=blB gw hBw i6.i
   refine ybi (.o [] 10) (.t B [169,5,39,3,82,124]) fun _ _ _ _ zJ zQ zo zx zy zK=>Xd (m:=1) (news:=[V0 (((Z.getD i zvD).1.2.getD j mpD).1),.string ⟨(Zta ((Z.getD i zvD).1.2.getD j mpD)).toArray⟩,V0 0]) (.agg #[V0 0,.string ⟨#[]⟩,V0 0]) 3 32 (j+1) ((((Up (Z.getD i zvD).1.2).take (j+1)).flatMap Ki)) zo Tryz.underlying99 K0 rfl Do zx d8 zy (i6.blk.sl 1 1 Do Do) rfl Y4 Y2 M0 y1.size Y6 (by exact Zk1 (by rw[Jo];omega) (Md M0)) fun mz nd ps nk e3 jf=>?_
   refine zK _ _ (Xj (jf.mono hBw) e3 d8 Do) ?_
   refine xwm (.r [11] 4) ((j:Int)+1) (↑(j+1):Int) ?_
   have hy:=Zt (Zb (Zb (Zb (i7.j (Zb ho e2.i) e2.blk Do) (Za i5)) d7) i6.i) e3 d8 Do
   have ci:=Zt (Zb (Zb (Zb (i7.j (Zb h5 e2.i) e2.blk Do) (Za i5)) d7) i6.i) e3 d8 Do
   have bg:=Zt (Zb (Zb (Zb (i7.j (Zb m5 e2.i) e2.blk Do) (Za i5)) d7) i6.i) e3 d8 Do
   have hm:=Zt (Zb (Zb (Zb (i7.j (Zb hc e2.i) e2.blk Do) (Za i5)) d7) i6.i) e3 d8 Do
   have cs:=Zt (Zb (Zb (Zb (i7.j (Zb h6 e2.i) e2.blk Do) (Za i5)) d7) i6.i) e3 d8 Do
   have gn:=(((((hA.i e2.i).q (Q1 (T:=[63]) i7 e2.blk Do) Do).i (Za i5)).i d7).i i6.i).q (Q4 (T:=[124]) e3 d8 Do) Do
   have ja:=y1.trans (jf.mono hBw)
   have ev:=(Q6 ((((Q3 (i3.trans (Q0 e2.i)) i7 md).trans (Q0 (Za i5))).trans (Q0 d7)).trans (Q0 i6.i)) e3 d8)
   have p4:=((((i7.A (i0.i e2.i) e2.blk Do).i (Za i5)).i d7).i i6.i).grown e3 d8 Do
   have o0:=((((i7.A (n7.i e2.i) e2.blk Do).i (Za i5)).i d7).i i6.i).grown e3 d8 Do
   have n3:=((((i7.A (h8.i e2.i) e2.blk Do).i (Za i5)).i d7).i i6.i).grown e3 d8 Do
   have k2:=((((i7.A (bc.i e2.i) e2.blk Do).i (Za i5)).i d7).i i6.i).grown e3 d8 Do
   exact ze 2 (jw _ _ _ ⟨j+1,_,_,rfl,rfl,ja,ev,p4,o0,n3,k2,hy,ci,bg,hm,cs,gn,nk,M0⟩ M0)
  rw[B9 (by rw[Jo];omega)] at hl
  refine xc 10 (args:=#[P0 bx,V0 2,.slice p1 j c1,P0 be]) (by have q:=Zle B ba b g nn cc pa ca N bs (twT (Z.map fst) i) 2 p1 c1 j (Up (Z.getD i zvD).1.2) bx be _ _ _ (by rw[Jo];omega) hC hA i0 n7 hbe nh (by rw[mc];omega) (fun W _ h2=>Zf (Zi hl h2 Do)) (N0 hBw h3.size);rw[mc] at q;exact q) ?_
  rintro _ pz ⟨rfl,jo,f8,hA,y4⟩
  have h1:=i0.q f8 Do
  refine xb 9 1 h1 ?_
  refine xbs 1 1 [V0 (↑(twN (Z.map fst) (i+1)):Int)] 3 fun mq os h7=>?_
  have jb:=h3.trans jo
  have en:=Zi hc f8 Do
  have ai:=Zi h6 f8 Do
  have ht:=Zi ho f8 Do
  have ck:=Zi h5 f8 Do
  have cy:=Zi m5 f8 Do
  have b8:=a0
  have c3:=Zb cy h7.i
  have n4:=blB jb hBw h7.i
  refine xbi 0 fun _ _ _ _ zJ zQ zo zx zy zK=>Qo (b:=mq) (c:=1) (m:=1) (news:=[V0 (↑(twN (Z.map fst) (i+1)):Int)]) (V0 0) 1 8 (i+1) ((((range (i+1)).map (twR (Z.map fst))).map nv)) zo Tryz.underlying27 K0 rfl Do zx c3 zy h7.blk rfl Y4 Y2 M0 n4.size Y6 (Zxd b7) fun lj lp oj lx e0 fe t4=>?_
  have w0:=Zb ht h7.i
  have ax:=a4.row w0 e0
  replace a4:=(a4.grow w0 t4)
  have k8:=Zb ck h7.i
  have v0:=a3.row k8 e0
  replace a3:=(a3.grow k8 t4)
  have w1:=Zb en h7.i
  have ag:=a2.symm.row w1 e0
  replace a2:=(a2.symm.grow w1 t4).symm
  have m0:=Zb ai h7.i
  have r8:=a0.row m0 e0
  replace a0:=(a0.grow m0 t4)
  have v4:=ax
  have z1:=v0
  have x5:=ag
  have n0:=r8
  refine zK _ _ ?_
  have a1:=(h1.i h7.i).grown e0 c3 Do
  refine xs 2 a1 [P0 ba,.slice lj (i+1) lp,.slice (S3 gc) k k] fun f3 g7 ma=>?_
  refine xd 2 (.t B [169,5,39,3,82,124]) ?_
  have e8:=Zb (g7.j z1 a1 Do) (Za f3)
  refine xx (.e [0,1,2,4,5,6] 7) _ n i 1 (Vf (Zf e8) lk (k:=i) M0).1 ?_
  refine xm2 0 3 8 ?_ ?_
  ·have o9:=ma.i (Za f3)
   refine xb 0 2 o9 ?_
   refine xl (.o [] 8) ((Vf (Zf e8) lk (k:=i) M0).2) ?_
   refine xx (.e [] 9) _ k (twN (Z.map fst) (i+1)) 1 (show(some (⟨gc,0,none⟩:Addr)).isSome=true from rfl) ?_
   have d6:=Zb (g7.j x5 a1 Do) (Za f3)
   refine yst (.o [] 10) (.t B [169,5,39,3,82,124]) fun _ _ _ _ zJ zQ zo zx zy zK=>Vx (t:=3) (k:=(twN (Z.map fst) (i+1))) (v:=V0 (↑((shN (Z.map fst)).getD i 0):Int)) zo zx zy K0 rfl d6 M0 fun ow j6 mf=>?_
   rw[Zm0 g8 b7 M0] at mf
   have i1:=(g7.A ((y4.i h7.i).grown e0 c3 Do) a1 Do).i (Za f3)
   have h0:=(g7.A (((h8.q f8 Do).i h7.i).grown e0 c3 Do) a1 Do).i (Za f3)
   refine zK _ _ (Lb (T:=[3]) (j6.i (U3 _ _) (Ux d6)) (Q9 j6 d6 Do)) ?_
   refine xwm 4 ((i:Int)+1) (↑(i+1):Int) ?_
   have ep:=((((hA.i h7.i).T b8 e0 c3).q (Q1 (T:=[82]) g7 a1 Do) Do).i (Za f3)).c7 hpa j6 d6
   have fh:=j6.O (Zb (g7.j v4 a1 Do) (Za f3)) (fun j hj e=>lw _ rfl (e▸hj))
   have bm:=j6.O e8 (fun j hj e=>ly _ rfl (e▸hj))
   have gb:=j6.O (Zb (g7.j lx a1 Do) (Za f3)) (fun j hj e=>a2 _ rfl (e▸hj))
   have ah:=j6.O (Zb (g7.j n0 a1 Do) (Za f3)) (fun j hj e=>fz _ rfl (e▸hj))
   have gp:=j6.i (blB (g7.i (n4.trans (fe.mono hBw)) hbx) hBw (Za f3)) (Ux d6)
   have hg:=(((Q6 ((i3.trans (f8.wide Do)).trans (Q0 h7.i)) e0 c3).trans (Q1 g7 a1 Do)).trans (Q0 (Za f3))).trans (Q9 j6 d6 Do)
   have ia:=j6.blk o9 (Yc o9 d6 Do)
   have r7:=j6.blk i1 (Yc i1 d6 Do)
   have p2:=j6.blk h0 (Yc h0 d6 Do)
   exact ze 2 (j7 _ _ _ ⟨i+1,_,_,rfl,rfl,gp,hg,ia,r7,p2,fh,bm,gb,mf,ah,(by rw[←kk];exact ep),M0,a4,a3,a2,a0⟩ M0)
  refine xl 0 ((Vf (Zf e8) lk (k:=i) M0).2) ?_
  have k6:=ma.i (Za f3)
  refine xb (.o [] 3) 2 k6 ?_
  refine xx (.e [] 9) _ k (twN (Z.map fst) (i+1)) 1 (show(some (⟨gc,0,none⟩:Addr)).isSome=true from rfl) ?_
  have d4:=Zb (g7.j x5 a1 Do) (Za f3)
  refine yst (.o [] 10) (.t B [169,5,39,3,82,124]) fun _ _ _ _ zJ zQ zo zx zy zK=>Vx (t:=3) (k:=(twN (Z.map fst) (i+1))) (v:=V0 (↑((shN (Z.map fst)).getD i 0):Int)) zo zx zy K0 rfl d4 M0 fun qc j9 lz=>?_
  rw[Zm0 g8 b7 M0] at lz
  have i4:=(g7.A ((y4.i h7.i).grown e0 c3 Do) a1 Do).i (Za f3)
  have h4:=(g7.A (((h8.q f8 Do).i h7.i).grown e0 c3 Do) a1 Do).i (Za f3)
  refine zK _ _ (Lb (T:=[3]) (j9.i (U3 _ _) (Ux d4)) (Q9 j9 d4 Do)) ?_
  refine xwm 4 ((i:Int)+1) (↑(i+1):Int) ?_
  have gh:=((((hA.i h7.i).T b8 e0 c3).q (Q1 (T:=[82]) g7 a1 Do) Do).i (Za f3)).c7 hpa j9 d4
  have hs:=j9.O (Zb (g7.j v4 a1 Do) (Za f3)) (fun j hj e=>lw _ rfl (e▸hj))
  have ar:=j9.O e8 (fun j hj e=>ly _ rfl (e▸hj))
  have ie:=j9.O (Zb (g7.j lx a1 Do) (Za f3)) (fun j hj e=>a2 _ rfl (e▸hj))
  have z9:=j9.O (Zb (g7.j n0 a1 Do) (Za f3)) (fun j hj e=>fz _ rfl (e▸hj))
  have fn:=j9.i (blB (g7.i (n4.trans (fe.mono hBw)) hbx) hBw (Za f3)) (Ux d4)
  have jg:=(((Q6 ((i3.trans (f8.wide Do)).trans (Q0 h7.i)) e0 c3).trans (Q1 g7 a1 Do)).trans (Q0 (Za f3))).trans (Q9 j9 d4 Do)
  have fq:=j9.blk k6 (Yc k6 d4 Do)
  have r9:=j9.blk i4 (Yc i4 d4 Do)
  have m2:=j9.blk h4 (Yc h4 d4 Do)
  exact ze 2 (j7 _ _ _ ⟨i+1,_,_,rfl,rfl,fn,jg,fq,r9,m2,hs,ar,ie,lz,z9,(by rw[←kk];exact gh),M0,a4,a3,a2,a0⟩ M0)
 have ni:i=n:=M0
 exact xe 4 (.tuple #[]) (by subst ni;exact⟨rfl,_,_,d5,d9,hA,g5,c5,Zg m5 hBw,hc⟩)
theorem tw_heads(B ba b g nn cc:Nat)(pa:O0)(ca N:Nat)(bs:Bl)(bx be:Nat)(rp:O0)(rc:Nat)(x3:V2)(p:O0)(c n x:Nat)(t u v:Int)(Z:V6 Zv)(w:V1)(hZ:Z.length=n)(hP:∀ W,Below B w W→DevsR W p c Z)(hk:PoolOk t u v (x:Int) (Z.map fst))(hC:AlC B ba nn cc ca 1 N)(hA:AlF B ba b g nn cc pa ca N bs (twT (Z.map fst) n) w)(kx:Blk w bx [P0 ba,.slice rp n rc,x3] 82)(ke:Blk w be [.nilIface] 39)(hbx:B≤bx)(hbe:B≤be)(hro:w.ownsRow B 3 1 (.slice rp n rc) n (((range n).map (twR (Z.map fst))).map nv))(hr:Xr (G2 (Z.map fst))≤N)(hBw:B≤w.heap.size) :
 C0 44 #[P0 bx,.agg #[V0 t,V0 u,V0 v,V0 (x:Int),.slice p n c],P0 be] w ((fun e w'=>e=.returned (.tuple #[V0 (↑(Xr (G1 (Z.map fst))):Int),V0 (↑(Xr (G2 (Z.map fst))):Int)])∧Below B w w'∧Zd [169,5,39,124] w w'∧AlF B ba b g nn cc pa ca N bs (G2 (Z.map fst)) w'∧Blk w' be [.nilIface] 39)):=by
 have h4:∀ W,Below B w W→Zd [169,5,39,124] w W→DevsR W p c Z:=fun W h _=>hP W h
 have hx:x≤65536:=by have:=hk.a3;omega
 have i0:(Z.map fst).length=n:=by rw[A3];exact hZ
 have h5:=hk.J.a0
 have i3:N≤14400:=by have a:=hC.hf;have b:=hC.hn;omega
 have i4:=Zy2 (Z.map fst)
 have g6:twT (Z.map fst) n++[(1,(Wd (Z.map fst) (twR (Z.map fst))))]=G1 (Z.map fst):=by rw[←i0];rfl
 have g5:G1 (Z.map fst)++[(3,(Po (Z.map fst) (Gh (Z.map fst))))]=G2 (Z.map fst):=rfl
 refine zin 62 Tryz.func44 ?_
 refine xa 2 [V0 t,V0 u,V0 v,V0 (x:Int),.slice p n c] 24 fun b1 W1 n1=>?_
 refine xb 14 4 n1.blk ?_
 have d6:=Zb hro n1.i
 have f8:=hA.i n1.i
 have hB:=blB (U3 B w) hBw n1.i
 have hO:=(show Zd [169,5,39,124] w _ from(Q0 n1.i))
 have e9:=kx.i n1.i
 have f1:=ke.i n1.i
 refine zl 5 62 (fun zm h8 V=>∃ (i:Nat) (p7:O0) (c7:Nat) (p8:O0) (c8:Nat),h8=[(0,P0 bx),(2,P0 be),(6,V0 0),(7,V0 0),(8,.slice p7 i c7),(9,.slice p8 i c8),(14,.slice p n c),(15,V0 (n:Int)),(16,V0 (i:Int))]∧zm=n-((i:Int)).toNat∧Below B w V∧Zd [169,5,39,124] w V∧Blk V bx ([P0 ba,.slice rp n rc,x3]) 82∧Blk V be ([.nilIface]) 39∧Blk V b1 ([V0 t,V0 u,V0 v,V0 (x:Int),.slice p n c]) 24∧V.ownsRow w.heap.size 124 3 (.slice p7 i c7) i (((Wd (Z.map fst) (twR (Z.map fst))).take i).flatMap Ki)∧V.ownsRow w.heap.size 124 3 (.slice p8 i c8) i (((Po (Z.map fst) (Gh (Z.map fst))).take i).flatMap Ki)∧V.ownsRow B 3 1 (.slice rp n rc) n (((range n).map (twR (Z.map fst))).map nv)∧AlF B ba b g nn cc pa ca N bs (twT (Z.map fst) n) V∧i≤n∧Vi (.slice p7 i c7) (.slice p8 i c8)) ⟨0,none,0,none,0,rfl,rfl,hB,hO,e9,f1,n1.blk,A8 _ _ _ _,A8 _ _ _ _,d6,f8,A5 _,Vi.nil _⟩ ?_
 rintro _ _ W2 ⟨i,p7,c7,p8,c8,rfl,rfl,a6,c5,a4,c1,e4,c6,c2,hro,hA,hi,d0⟩ J2 i1 r2
 refine xid 6 ((i:Int)<(n:Int)) (fun h9=>?_) (fun h9=>?_)
 ·have e8:=zfst (Z:=Z) (i:=i) M0 dvD
  have h1:=Zff (L:=(Z.map fst)) (i:=i) M0
  rw[e8] at h1
  have h6:=hk.J.sum
  have e1:=hk.J.each ((Z.map fst).getD i dvD) (Zwd _ M0)
  rw[e8] at e1
  have i7:=Ob (L:=(Z.map fst)) (i:=i) M0
  have i2:=Je (Z.map fst) (show i+1≤(Z.map fst).length by omega)
  refine xx 7 _ n i 5 ((hP _ (U3 _ _)).a4 hZ (i:=i) M0) ?_
  refine xlv 0 (Sts.rp (k:=i) (h4 _ a6 c5).row Jd zvD M0 Do) ?_
  refine xa 0 [V0 0,V0 0,V0 0,V0 0,S1] 32 fun b4 W4 n4=>?_
  have g4:=n4.Q a6
  refine xsv 1 n4.blk [V0 ((Z.getD i zvD).1.1.1),V0 ((Z.getD i zvD).1.1.2.1),V0 ((Z.getD i zvD).1.1.2.2.1),V0 ((Z.getD i zvD).1.1.2.2.2),.slice ((Z.getD i zvD).2.1) ((Z.getD i zvD).1.2.length) ((Z.getD i zvD).2.2)] fun W5 u5 k5=>?_
  refine xd 3 (.t B [169,5,39,124]) ?_
  have d5:=k5.i (Za W5)
  refine xbt (.e [0,1] 2) 0 B [169,5,39,124] d5 ?_
  have a3:=(u5.A (a4.i n4.i) n4.blk Do).i (Za W5)
  refine xbt (.e [3,4,5] 6) 1 B [169,5,39,124] a3 ?_
  have a5:=Zb (u5.j (Zb hro n4.i) n4.blk Do) (Za W5)
  refine xx (.e [7] 8) _ n i 1 (Yo (Zf a5) (i:=i) M0).1 ?_
  refine xlt (.e [] 9) (.t B [169,5,39,124]) (fun V hV=>(Yo (Zf (Zi a5 hV.2 Do)) (i:=i) M0).2) ?_
  refine xr (.o [] 10) (Zcz (↑(twR (Z.map fst) i):Int) M0 M0 _) fun W6 b0=>?_
  refine xbs (.o [11] 12) 1 [V0 ((Z.getD i zvD).1.1.1),.string ⟨(leB (↑(twR (Z.map fst) i):Int) 4).toArray⟩,V0 0] 124 fun b7 W7 n7=>?_
  have f7:=blB (blB (u5.i (blB a6 hBw n4.i) (N0 hBw g4)) hBw (Za W5)) hBw b0
  have c9:=Zb (Zb (u5.j (Zb c6 n4.i) n4.blk Do) (Za W5)) b0
  have d4:=Zb (Zb (u5.j (Zb c2 n4.i) n4.blk Do) (Za W5)) b0
  have a0:=Zb c9 n7.i
  have d8:=blB f7 hBw n7.i
  refine ybi (.o [] 13) (.t B [169,5,39,124]) fun _ _ _ _ zJ zQ zo zx zy zK=>Qo (b:=b7) (c:=1) (m:=1) (news:=[V0 ((Z.getD i zvD).1.1.1),.string ⟨(leB (↑(twR (Z.map fst) i):Int) 4).toArray⟩,V0 0]) (.agg #[V0 0,.string ⟨#[]⟩,V0 0]) 3 32 (i+1) ((((Wd (Z.map fst) (twR (Z.map fst))).take (i+1)).flatMap Ki)) zo Tryz.underlying99 K0 rfl Do zx a0 zy n7.blk rfl Y4 Y2 M0 d8.size Y6 (by have e:=Ui (L:=(Z.map fst)) (R:=twR (Z.map fst)) (i:=i) M0;rw[e8] at e;exact Zk1 (by rw[Yw];omega) e) fun i6 j1 W8 o8 c0 g7 g8=>?_
  have a7:=Zb d4 n7.i
  have b9:=d0.row a7 c0
  replace d0:=(d0.grow a7 g8)
  have d2:=b9
  refine zK _ _ (Xj (g7.mono hBw) c0 a0 Do) ?_
  refine xd (.r [14] 2) (.t B [169,5,39,124]) ?_
  have a8:=(((d5.i b0).i n7.i).grown c0 a0 Do).i (Za W8)
  refine xbt (.e [0,1] 2) 0 B [169,5,39,124] a8 ?_
  refine xbt (.e [3] 4) 4 B [169,5,39,124] a8 ?_
  refine xbt (.e [5,6] 7) 1 B [169,5,39,124] a8 ?_
  refine xbt (.e [8] 9) 2 B [169,5,39,124] a8 ?_
  refine xbt (.e [10] 11) 3 B [169,5,39,124] a8 ?_
  refine xr (.o [12] 13) (Ze7 (x:Int) (↑(Z.getD i zvD).1.2.length:Int) (Z.getD i zvD).1 _ e1 ⟨M0,M0⟩) fun W9 b8=>?_
  refine xbs (.o [14] 15) 1 [V0 ((Z.getD i zvD).1.1.1),.string ⟨(Pr (↑(Z.getD i zvD).1.2.length:Int) (Z.getD i zvD).1).toArray⟩,V0 0] 124 fun h0 j0 a9=>?_
  have g0:=blB (blB (d8.trans (g7.mono hBw)) hBw (Za W8)) hBw b8
  have d3:=Zb (Zb d2 (Za W8)) b8
  have f4:=Zb (Zb o8 (Za W8)) b8
  have a1:=Zb d3 a9.i
  have e0:=blB g0 hBw a9.i
  refine ybi (.o [] 16) (.t B [169,5,39,124]) fun _ _ _ _ zJ zQ zo zx zy zK=>Qo (b:=h0) (c:=1) (m:=1) (news:=[V0 ((Z.getD i zvD).1.1.1),.string ⟨(Pr (↑(Z.getD i zvD).1.2.length:Int) (Z.getD i zvD).1).toArray⟩,V0 0]) (.agg #[V0 0,.string ⟨#[]⟩,V0 0]) 3 32 (i+1) ((((Po (Z.map fst) (Gh (Z.map fst))).take (i+1)).flatMap Ki)) zo Tryz.underlying99 K0 rfl Do zx a1 zy a9.blk rfl Y4 Y2 M0 e0.size Y6 (by have e:=Pa (L:=(Z.map fst)) (C:=Gh (Z.map fst)) (i:=i) M0;unfold Gh at e;rw[e8] at e;exact Zk1 (by rw[Kr];omega) e) fun g9 h7 i5 h3 a2 e7 f2=>?_
  have d9:=Zb f4 a9.i
  have c3:=d0.symm.row d9 a2
  replace d0:=(d0.symm.grow d9 f2).symm
  have e6:=c3
  refine zK _ _ (Xj (e7.mono hBw) a2 a1 Do) ?_
  refine xwm (.r [17] 4) ((i:Int)+1) (↑(i+1):Int) ?_
  have d7:=Zt (Zb (Zb (Zb (Zt (Zb (Zb a5 b0) n7.i) c0 a0 Do) (Za W8)) b8) a9.i) a2 a1 Do
  have g1:=(((((((((hA.i n4.i).q (Q1 (T:=[32]) u5 n4.blk Do) Do).i (Za W5)).i b0).i n7.i).q (Q4 (T:=[124]) c0 a0 Do) Do).i (Za W8)).i b8).i a9.i).q (Q4 (T:=[124]) a2 a1 Do) Do
  have f9:=e0.trans (e7.mono hBw)
  have f5:=(Q6 ((((Q6 ((((Q3 (c5.trans (Q0 n4.i)) u5 g4).trans (Q0 (Za W5))).trans (Q0 b0)).trans (Q0 n7.i)) c0 a0).trans (Q0 (Za W8))).trans (Q0 b8)).trans (Q0 a9.i)) a2 a1)
  have b5:=((((((a3.i b0).i n7.i).grown c0 a0 Do).i (Za W8)).i b8).i a9.i).grown a2 a1 Do
  have b3:=((((((((u5.A (c1.i n4.i) n4.blk Do).i (Za W5)).i b0).i n7.i).grown c0 a0 Do).i (Za W8)).i b8).i a9.i).grown a2 a1 Do
  have b6:=((((((((u5.A (e4.i n4.i) n4.blk Do).i (Za W5)).i b0).i n7.i).grown c0 a0 Do).i (Za W8)).i b8).i a9.i).grown a2 a1 Do
  exact ze 2 (i1 _ _ _ ⟨i+1,_,_,_,_,rfl,rfl,f9,f5,b5,b3,b6,e6,h3,d7,g1,M0,d0⟩ M0)
 rw[B9 (by rw[Yw];omega)] at c6
 rw[B9 (by rw[Kr];omega)] at c2
 refine xc 10 (args:=#[P0 bx,V0 1,.slice p7 i c7,P0 be]) (by have q:=Zle B ba b g nn cc pa ca N bs (twT (Z.map fst) n) 1 p7 c7 i (Wd (Z.map fst) (twR (Z.map fst))) bx be _ _ _ (by rw[Yw];omega) hC hA a4 c1 hbe (top_ok hk.J) (by rw[g6];omega) (fun W _ h2=>Zf (Zi c6 h2 Do)) (N0 hBw a6.size);rw[g6] at q;exact q) ?_
 rintro _ i9 ⟨rfl,f6,d1,hA,e3⟩
 have b2:=a4.q d1 Do
 have c4:=Zi c2 d1 Do
 have e5:=a6.trans f6
 refine xc 9 (args:=#[P0 bx,V0 3,.slice p8 i c8,P0 be]) (by have q:=Zle B ba b g nn cc pa ca N bs (G1 (Z.map fst)) 3 p8 c8 i (Po (Z.map fst) (Gh (Z.map fst))) bx be _ _ _ (by rw[Kr];omega) hC hA b2 e3 hbe (det_ok hk.J) (by rw[g5];omega) (fun W _ h2=>Zf (Zi c4 h2 Do)) (N0 hBw e5.size);rw[g5] at q;exact q) ?_
 rintro _ i8 ⟨rfl,f3,g3,hA,e2⟩
 have g2:=e5.trans f3
 have f0:=(c5.trans (d1.wide Do)).trans (g3.wide Do)
 exact xe 5 (.tuple #[V0 (↑(Xr (G1 (Z.map fst))):Int),V0 (↑(Xr (G2 (Z.map fst))):Int)]) ⟨rfl,g2,f0,hA,e2⟩
end
end
end Go.Proofs.YtekomodnkfhihaaGreatDoor
