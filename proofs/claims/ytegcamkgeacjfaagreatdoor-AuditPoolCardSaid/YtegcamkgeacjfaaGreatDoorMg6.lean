/- Mappings and details read, by the program. -/
import Derived.Shelf.Sort.Plain
import Derived.Shelf.Slices.In.SortNone
import Derived.Ground.SlgnProg
import Derived.Shelf.SlicesG.CompactI
import Derived.Test.YtegcamkgeacjfaaGreatDoorProg
import Derived.Sort.OwnSortedInts
import Derived.Lib.SlicesCompact
import Derived.Laws.StructEq
import Derived.Test.YtegcamkgeacjfaaGreatDoorMg5
namespace Go.Proofs.YtegcamkgeacjfaaGreatDoor
set_option maxHeartbeats 8000000
set_option maxRecDepth 100000
open Go.RowKit Go.Extern.Stop Go.Stop Go.Extern
set_option linter.unusedVariables false
attribute [local irreducible] wpList wpAnyH Code.wp Oper.wp Go
theorem Es(w:World) :
 C0 260 #[] w (Ko (fun w' r=>∃ b,r=.slice (S1 b) 1 1∧w.heap.size≤b∧Blk w' b [V0 8,V0 0,V0 1099511627775] 377) w):=by
 refine zin 3 Tryz.func260 ?_
 refine xbs 8 1 [V0 8,V0 0,V0 1099511627775] 377 fun b1 W1 n1=>?_
 exact xe 4 (.slice (S1 b1) 1 1) ⟨_,rfl,n1.below,b1,rfl,(n1.ge (B1 w)),n1.blk⟩
theorem map_shr(s:Bl):Int.fdiv (↑((Qa Vn s).getD 0 0):Int) (2 ^ 24)=(Mb s:Int):=by
 show Int.fdiv ((Zae s:Nat):Int) ((16777216:Nat):Int)=_
 rw[Int.fdiv_eq_ediv_of_nonneg _ (by omega)]
 unfold Mb;omega
theorem map_and(s:Bl):IntKind.i64.wrap (↑(BitVec.ofInt 64 (↑((Qa Vn s).getD 0 0):Int) &&& BitVec.ofInt 64 (16777215:Int)).toNat:Int)=(Ef s:Int):=by
 show IntKind.i64.wrap (↑(BitVec.ofInt 64 (Zae s:Int) &&& BitVec.ofInt 64 (16777215:Int)).toNat:Int)=(Ef s:Int)
 have:=mapN_bd s
 rw[show(16777215:Int)=((16777215:Nat):Int) from rfl,BitVec.ofInt_natCast,BitVec.ofInt_natCast,BitVec.toNat_and,BitVec.toNat_ofNat,BitVec.toNat_ofNat,Nat.mod_eq_of_lt (by omega),Nat.mod_eq_of_lt (by omega)]
 rw[show Zae s &&& 16777215=Zae s%16777216 from Nat.and_two_pow_sub_one_eq_mod (Zae s) 24]
 exact Jb (by omega)
theorem Pn(s:Bl)(w:World)(hs:s.length≤1000) :
 C0 205 #[.string ⟨s.toArray⟩] w (Ret (.tuple #[V0 (↑(Mb s):Int),V0 (↑(Ef s):Int),V0 (Xt Vn s)]) w):=by
 refine zin 22 Tryz.func205 ?_
 refine xc 9 (args:=#[]) (Es _) ?_
 rintro _ W1 ⟨_,rfl,a1,gl,rfl,gg,kl⟩
 refine xc 1 (args:=#[.slice (S1 gl) 1 1,.string ⟨s.toArray⟩]) (Cj Vn s (S1 gl) 1 _ mapP_ok (by decide) (by omega) (kl.sl 1 1 (by decide) (by decide))) ?_
 rintro _ W2 ⟨_,rfl,a2,p5,c5,rfl,h5⟩
 refine xd 8 .z ?_
 have a0:=Zb (Zg h5 a1.size) (Za W2)
 refine xx (.e [0] 1) _ 1 0 1 (Zr (l:=Qa Vn s) (Zh a0) (Ql _ _) (k:=0) (by decide)).1 ?_
 refine xl (.e [] 2) ((Zr (l:=Qa Vn s) (Zh a0) (Ql _ _) (k:=0) (by decide)).2) ?_
 refine xq (.e [] 3) (congrArg V0 (show(Int.fdiv (↑((Qa Vn s).getD 0 0):Int) (2 ^ 24):Int)=(↑(Mb s):Int) from map_shr s)) ?_
 refine xx (.e [4] 5) _ 1 0 1 (Zr (l:=Qa Vn s) (Zh a0) (Ql _ _) (k:=0) (by decide)).1 ?_
 refine xl (.e [] 6) ((Zr (l:=Qa Vn s) (Zh a0) (Ql _ _) (k:=0) (by decide)).2) ?_
 refine xq (.e [] 7) (congrArg V0 (show(IntKind.i64.wrap (↑(BitVec.ofInt 64 (↑((Qa Vn s).getD 0 0):Int) &&& BitVec.ofInt 64 (16777215:Int)).toNat:Int):Int)=(↑(Ef s):Int) from map_and s)) ?_
 have hB:=bln (bln a1 a2) (Za W2)
 exact xe (.r [8,9,10,11] 3) (.tuple #[V0 (↑(Mb s):Int),V0 (↑(Ef s):Int),V0 (Xt Vn s)]) ⟨rfl,hB⟩
theorem En(w:World) :
 C0 203 #[] w (Ko (fun w' r=>∃ b,r=.slice (S1 b) 4 4∧w.heap.size≤b∧Blk w' b [V0 8,V0 0,V0 16384,V0 8,V0 0,V0 2147483647,V0 4,V0 0,V0 16777215,V0 4,V0 0,V0 16777215] 377) w):=by
 refine zin 6 Tryz.func203 ?_
 refine xbs 11 4 [V0 8,V0 0,V0 16384,V0 8,V0 0,V0 2147483647,V0 4,V0 0,V0 16777215,V0 4,V0 0,V0 16777215] 377 fun b1 W1 n1=>?_
 exact xe 4 (.slice (S1 b1) 4 4) ⟨_,rfl,n1.below,b1,rfl,(n1.ge (B1 w)),n1.blk⟩
theorem Gk(s:Bl)(w:World)(hs:s.length≤1000) :
 C0 110 #[.string ⟨s.toArray⟩] w (Ret (.tuple #[.agg #[V0 (↑(Xu s 0):Int),V0 (↑(Xu s 1):Int),V0 (↑(Xu s 2):Int),V0 (↑(Xu s 3):Int)],V0 (Xt Ky s)]) w):=by
 refine zin 26 Tryz.func110 ?_
 refine xa 2 [V0 0,V0 0,V0 0,V0 0] 202 fun b1 W1 n1=>?_
 refine xc 5 (args:=#[]) (En _) ?_
 rintro _ W2 ⟨_,rfl,a1,gl,rfl,gg,kl⟩
 refine xc 1 (args:=#[.slice (S1 gl) 4 4,.string ⟨s.toArray⟩]) (Cj Ky s (S1 gl) 4 _ detP_ok (by decide) (by omega) (kl.sl 4 4 (by decide) (by decide))) ?_
 rintro _ W3 ⟨_,rfl,a2,p5,c5,rfl,h5⟩
 have a3:=(bln n1.below a1).size
 refine xd 8 (.t w.heap.size [202]) ?_
 have a0:=Zb (Zg h5 a3) (Za W3)
 refine xx (.e [0] 1) _ 4 0 1 (Zr (l:=Qa Ky s) (Zh a0) (Ql _ _) (k:=0) (by decide)).1 ?_
 refine xlt (.e [] 2) (.t w.heap.size [202]) (fun V hV=>(Zr (l:=Qa Ky s) (Zh (Zn a0 hV.2 (by decide))) (Ql _ _) (k:=0) (by decide)).2) ?_
 refine xx (.e [3] 4) _ 4 1 1 (Zr (l:=Qa Ky s) (Zh a0) (Ql _ _) (k:=1) (by decide)).1 ?_
 refine xlt (.e [] 5) (.t w.heap.size [202]) (fun V hV=>(Zr (l:=Qa Ky s) (Zh (Zn a0 hV.2 (by decide))) (Ql _ _) (k:=1) (by decide)).2) ?_
 refine xx (.e [6] 7) _ 4 2 1 (Zr (l:=Qa Ky s) (Zh a0) (Ql _ _) (k:=2) (by decide)).1 ?_
 refine xlt (.e [] 8) (.t w.heap.size [202]) (fun V hV=>(Zr (l:=Qa Ky s) (Zh (Zn a0 hV.2 (by decide))) (Ql _ _) (k:=2) (by decide)).2) ?_
 refine xx (.e [9] 10) _ 4 3 1 (Zr (l:=Qa Ky s) (Zh a0) (Ql _ _) (k:=3) (by decide)).1 ?_
 refine xlt (.e [] 11) (.t w.heap.size [202]) (fun V hV=>(Zr (l:=Qa Ky s) (Zh (Zn a0 hV.2 (by decide))) (Ql _ _) (k:=3) (by decide)).2) ?_
 have k1:=((n1.blk.below a1).below a2).below (Za W3)
 have g1:=n1.ge (B1 w)
 refine ysv (.o [12,13] 14) k1 [V0 (↑((Qa Ky s).getD 0 0):Int),V0 (↑((Qa Ky s).getD 1 0):Int),V0 (↑((Qa Ky s).getD 2 0):Int),V0 (↑((Qa Ky s).getD 3 0):Int)] (.t w.heap.size [202]) fun W4 u4 k4=>⟨(Zp u4 k1 g1 (by decide)),?_⟩
 have hB:=u4.below (bln (bln (bln n1.below a1) a2) (Za W3)) g1
 exact xec (.r [15] 3) k4 (.tuple #[.agg #[V0 (↑((Qa Ky s).getD 0 0):Int),V0 (↑((Qa Ky s).getD 1 0):Int),V0 (↑((Qa Ky s).getD 2 0):Int),V0 (↑((Qa Ky s).getD 3 0):Int)],V0 (Xt Ky s)]) ⟨rfl,hB⟩
theorem Yq(l:Bl)(root tree fuel:Int):∀ i,i<(Zd l root tree fuel).es.length→((Zd l root tree fuel).es.getD i Zj).2.1.length≤1000:=fun i hi=>by
 have hx:(Zd l root tree fuel).es.getD i Zj∈(Zd l root tree fuel).es:=by rw[show(Zd l root tree fuel).es.getD i Zj=(Zd l root tree fuel).es[i] from by simp[List.getD,hi]];exact List.getElem_mem hi
 obtain⟨_,_,k,_,_,h,_⟩:=(Hz l root tree fuel).2.2.1 _ hx
 rw[←h]
 exact Je _ _ _
def Cx(B bx:Nat)(cs:List Value)(D:List Dg)(ra rb rc:Nat)(kd kr km:List (Int×Value))(w w':World):Prop :=
 ∃ p c,Below B w w'∧Ze [114,100] w w'∧Blk w' bx (.slice p D.length c::cs) 114∧w'.ownsRow B 100 3 (.slice p D.length c) D.length (D.flatMap dmc)∧Maps3 B ra rb rc kd kr km w'
theorem Xy(B bx:Nat)(p:O0)(c:Nat)(D:List Dg)(ra rb rc:Nat)(kd kr km:List (Int×Value))(c1 c2 c3 c4 c5 c6 c7 c8 c9 c10 c11 c12 c13 c14 c15 c16:Value)(kind at_ code:Int)(w:World)(hc:code≠0)(hk:Blk w bx [.slice p D.length c,c1,c2,c3,c4,c5,c6,c7,c8,c9,c10,c11,c12,c13,c14,c15,c16] 114)(ho:w.ownsRow B 100 3 (.slice p D.length c) D.length (D.flatMap dmc))(hM:Maps3 B ra rb rc kd kr km w)(hBb:B≤bx)(hBw:B≤w.heap.size)(hl:D.length≤1000000000) :
 C0 53 #[P0 bx,V0 kind,V0 at_,V0 code] w ((fun e w'=>e=.returned (.bool true)∧Cx B bx [c1,c2,c3,c4,c5,c6,c7,c8,c9,c10,c11,c12,c13,c14,c15,c16] (D++[(kind,at_,code)]) ra rb rc kd kr km w w')):=by
 refine zin 24 Tryz.func53 ?_
 refine xk 12 (show((code==(0:Int)):Bool)=false from beq_false_of_ne hc) ?_
 refine xb 8 0 hk ?_
 refine xbs 4 1 [V0 kind,V0 at_,V0 code] 100 fun b1 W1 n1=>?_
 have a6:=Zx ho n1
 have a1:=Zb ho n1.below
 have hB:=blB (Below.refl B w) hBw n1.below
 refine xbi 0 fun _ _ _ _ zJ zQ zo zx zy zK=>Zw (m:=1) (news:=[V0 kind,V0 at_,V0 code]) (.agg #[V0 0,V0 0,V0 0]) 3 24 ((D++[(kind,at_,code)]).length) (((D++[(kind,at_,code)]).flatMap dmc)) zo Tryz.underlying47 (by kernel_rfl) rfl (by decide) zx a1 zy (n1.blk.sl 1 1 (by decide) (by decide)) rfl (by simp[Value.oneCell']) (by unfold maxLen;omega) (by omega) (Nat.le_trans hBw hB.size) (by simp) (by simp[dmc]) fun a8 a9 W2 o2 a4 a7=>?_
 refine zK _ _ ?_
 have a0:=(hk.below n1.below).grown a4 a1 (by decide)
 refine xs 2 a0 [.slice a8 ((D++[(kind,at_,code)]).length) a9,c1,c2,c3,c4,c5,c6,c7,c8,c9,c10,c11,c12,c13,c14,c15,c16] fun W3 u3 k3=>?_
 have a2:=u3.below (hB.trans a7) hBb
 have hO:=((show Ze [114,100] w _ from(Ze.of_below n1.below)).trans (Ze.of_grown a4 a1 (by decide))).trans (Ze.of_upd u3 a0 (by decide))
 have a5:=u3.own2 o2 a0 (by decide)
 have a3:=((hM.below n1.below).grown a4 a1).updBlk u3 a0
 exact xe 8 (.bool true) ⟨rfl,_,_,a2,hO,k3,a5,a3⟩
theorem Ud(bx:Nat)(kind at_:Int)(w:World) :
 C0 53 #[P0 bx,V0 kind,V0 at_,V0 0] w (Ret (.bool false) w):=by
 refine zin 24 Tryz.func53 ?_
 exact xe 20 (.bool false) ⟨rfl,(B1 w)⟩
theorem Jo(B bx:Nat)(p:O0)(c:Nat)(D:List Dg)(ra rb rc:Nat)(kd kr km:List (Int×Value))(c1 c2 c3 c4 c5 c6 c7 c8 c9 c10 c11 c12 c13 c14 c15 c16:Value)(kind at_ code:Int)(w:World)(hk:Blk w bx [.slice p D.length c,c1,c2,c3,c4,c5,c6,c7,c8,c9,c10,c11,c12,c13,c14,c15,c16] 114)(ho:w.ownsRow B 100 3 (.slice p D.length c) D.length (D.flatMap dmc))(hM:Maps3 B ra rb rc kd kr km w)(hBb:B≤bx)(hBw:B≤w.heap.size)(hl:D.length≤1000000000) :
 C0 53 #[P0 bx,V0 kind,V0 at_,V0 code] w (fun e w'=>(code=0∧e=.returned (.bool false)∧B0 w w')∨(code≠0∧e=.returned (.bool true)∧Cx B bx [c1,c2,c3,c4,c5,c6,c7,c8,c9,c10,c11,c12,c13,c14,c15,c16] (D++[(kind,at_,code)]) ra rb rc kd kr km w w')):=by
 by_cases h:code=0
 ·subst h
  exact(Ud bx kind at_ w).mono fun e W q=>.inl ⟨rfl,q.1,q.2⟩
 ·exact(Xy B bx p c D ra rb rc kd kr km c1 c2 c3 c4 c5 c6 c7 c8 c9 c10 c11 c12 c13 c14 c15 c16 kind at_ code w h hk ho hM hBb hBw hl).mono fun e W q=>.inr ⟨h,q.1,q.2⟩
theorem Sl.elemV{w:World}{pf:O0}{n c:Nat}{fv:List Value}(h:Sl w (.slice pf n c) n fv){k:Nat}{v:Value}(hv:fv[k]? = some v):pf.isSome=true∧w.cell? (Xq pf (k*1))=some v:=by
 rcases h with ⟨a,c,h1,h2,h3⟩|⟨b,a1,a0,h1,h2,h3,h4⟩
 ·subst h3;cases hv
 ·simp only[Value.slice.injEq] at h1
  obtain⟨rfl,_,_⟩:=h1
  exact⟨rfl,by simpa [Xq,Addr.add_mid] using h4 k v hv⟩
theorem Cu(D:List Dg)(kind:Int){fs:List (List Int×Int)}{i:Nat}(hi:i<fs.length):(D++(fs.take (i+1)).map (Xk kind)).flatMap dmc=(D++(fs.take i).map (Xk kind)).flatMap dmc++[V0 kind,V0 (Kr (fs.getD i ([],0)).1),V0 (fs.getD i ([],0)).2]:=by
 rw[List.take_succ_eq_append_getElem hi,List.map_append,←List.append_assoc,List.flatMap_append,show fs.getD i ([],0)=fs[i] from by simp[List.getD,hi]]
 simp[Xk,dmc]
theorem Qp(B bx:Nat)(p:O0)(c:Nat)(D:List Dg)(ra rb rc:Nat)(kd kr km:List (Int×Value))(c1 c2 c3 c4 c5 c6 c7 c8 c9 c10 c11 c12 c13 c14 c15 c16:Value)(kind:Int)(pf:O0)(cf:Nat)(fs:List (List Int×Int))(fv:List Value)(w:World)(hk:Blk w bx [.slice p D.length c,c1,c2,c3,c4,c5,c6,c7,c8,c9,c10,c11,c12,c13,c14,c15,c16] 114)(ho:w.ownsRow B 100 3 (.slice p D.length c) D.length (D.flatMap dmc))(hM:Maps3 B ra rb rc kd kr km w)(hFl:w.ownsRow B 29 1 (.slice pf fs.length cf) fs.length fv)(hFv:Kh w fs fv)(hfl:∀ f∈fs,f.1.length≤40)(hg:∀ W,Below B w W→Sm W)(hBb:B≤bx)(hBw:B≤w.heap.size)(hl:D.length+fs.length≤1000000000) :
 C0 109 #[P0 bx,V0 kind,.slice pf fs.length cf] w ((fun e w'=>(∃ u,e=.returned u)∧Cx B bx [c1,c2,c3,c4,c5,c6,c7,c8,c9,c10,c11,c12,c13,c14,c15,c16] (D++fs.map (Xk kind)) ra rb rc kd kr km w w')):=by
 refine zin 27 Tryz.func109 ?_
 have hB:=Below.refl B w
 refine zl 8 27 (fun zm i0 V=>∃ (i:Nat) (p:O0) (c:Nat),i0=[(0,P0 bx),(1,V0 kind),(8,.slice pf fs.length cf),(9,V0 (fs.length:Int)),(10,V0 (i:Int))]∧zm=fs.length-((i:Int)).toNat∧Below B w V∧Ze [114,100] w V∧Blk V bx ([.slice p (D.length+i) c,c1,c2,c3,c4,c5,c6,c7,c8,c9,c10,c11,c12,c13,c14,c15,c16]) 114∧V.ownsRow B 100 3 (.slice p (D.length+i) c) (D.length+i) ((D++(fs.take i).map (Xk kind)).flatMap dmc)∧V.ownsRow B 29 1 (.slice pf fs.length cf) fs.length fv∧Kh V fs fv∧Maps3 B ra rb rc kd kr km V∧i≤fs.length) ⟨0,p,c,rfl,rfl,hB,(Ze.refl _ _),hk,(by simpa using ho),hFl,hFv,hM,Nat.zero_le _⟩ ?_
 rintro _ _ W1 ⟨i,p,c,rfl,rfl,b9,b3,a8,ho,hFl,hFv,hM,hi⟩ J1 g9 r1
 refine xid 6 ((i:Int)<(fs.length:Int)) (fun i4=>?_) (fun i4=>?_)
 ·obtain⟨ty,v,h5,h4⟩:=hFv.at (j:=i) (by omega)
  have h6:=hfl _ (Md (l:=fs) (d:=([],0)) (i:=i) (by omega))
  refine xx 6 _ fs.length i 1 (Sl.elemV (Zh hFl) (k:=i) h5).1 ?_
  refine xl 0 ((Sl.elemV (Zh hFl) (k:=i) h5).2) ?_
  refine xd 3 (.t B [114,100]) ?_
  refine xm2 (.b [0,1,2,3,5,6]) 4 7 ?_ ?_
  ·have b0:=a8.below (Za W1)
   refine xb 0 0 b0 ?_
   have f0:=h4.below (Za W1)
   have f3:=blB b9 hBw (Za W1)
   refine xr (.o [] 7) (args:=#[V0 kind,.iface ty (v)]) (Cm kind (fs.getD i ([],0)).2 (fs.getD i ([],0)).1 _ _ h6 (hg _ f3) f0) fun W3 c0=>?_
   refine xbs (.o [] 8) 1 [V0 kind,V0 (Kr (fs.getD i ([],0)).1),V0 ((fs.getD i ([],0)).2)] 100 fun b4 W4 n4=>?_
   have d5:=blB f3 hBw c0
   have g4:=n4.ge0 d5
   have e4:=Zb (Zb ho (Za W1)) c0
   have h8:=Zx e4 n4
   have a4:=Zb e4 n4.below
   have e2:=blB d5 hBw n4.below
   refine ybi (.o [] 9) (.t B [114,100]) fun _ _ _ _ zJ zQ zo zx zy zK=>Zw (m:=1) (news:=[V0 kind,V0 (Kr (fs.getD i ([],0)).1),V0 ((fs.getD i ([],0)).2)]) (.agg #[V0 0,V0 0,V0 0]) 3 24 ((D.length+(i+1))) (((D++(fs.take (i+1)).map (Xk kind)).flatMap dmc)) zo Tryz.underlying47 (by kernel_rfl) rfl (by decide) zx a4 zy (n4.blk.sl 1 1 (by decide) (by decide)) rfl (by simp[Value.oneCell']) (by unfold maxLen;omega) (by omega) (Nat.le_trans hBw e2.size) (by omega) (by rw[Cu D kind (by omega)]) fun i5 i7 W5 o5 d1 h7=>?_
   refine zK _ _ (Zu h7 d1 a4 (by decide)) ?_
   have a2:=((b0.below c0).below n4.below).grown d1 a4 (by decide)
   refine ys (.o [10,11] 12) a2 [.slice i5 (D.length+(i+1)) i7,c1,c2,c3,c4,c5,c6,c7,c8,c9,c10,c11,c12,c13,c14,c15,c16] (.t B [114,100]) fun W6 u6 k6=>⟨(Zp u6 a2 hBb (by decide)),?_⟩
   refine xwm 4 ((i:Int)+1) (↑(i+1):Int) ?_
   have g3:=u6.below (e2.trans h7) hBb
   have g2:=((((b3.trans (Ze.of_below (Za W1))).trans (Ze.of_below c0)).trans (Ze.of_below n4.below)).trans (Ze.of_grown d1 a4 (by decide))).trans (Ze.of_upd u6 a2 (by decide))
   have f4:=u6.own2 o5 a2 (by decide)
   have e7:=u6.own2 (Zf (Zb (Zb (Zb hFl (Za W1)) c0) n4.below) d1 a4 (by decide)) a2 (by decide)
   have e8:=((((hFv.below (Za W1)).below c0).below n4.below).only (Ze.of_grown (T:=[100]) d1 a4 (by decide)) (by decide)).only (Ze.of_upd (T:=[114]) u6 a2 (by decide)) (by decide)
   have g5:=((((hM.below (Za W1)).below c0).below n4.below).grown d1 a4).updBlk u6 a2
   exact ze 2 (g9 _ _ _ ⟨i+1,_,_,rfl,rfl,g3,g2,k6,f4,e7,e8,g5,by omega⟩ (by omega))
  have d9:=h4.below (Za W1)
  have b7:=blB b9 hBw (Za W1)
  refine xr 0 (args:=#[V0 kind,.iface ty (v)]) (Cm kind (fs.getD i ([],0)).2 (fs.getD i ([],0)).1 _ _ h6 (hg _ b7) d9) fun W7 a7=>?_
  refine xm2 0 4 8 ?_ ?_
  ·have a9:=(a8.below (Za W1)).below a7
   refine xb 0 0 a9 ?_
   refine xbs (.o [] 8) 1 [V0 kind,V0 (Kr (fs.getD i ([],0)).1),V0 ((fs.getD i ([],0)).2)] 100 fun b8 W8 n8=>?_
   have f2:=blB b7 hBw a7
   have g8:=n8.ge0 f2
   have e6:=Zb (Zb ho (Za W1)) a7
   have h1:=Zx e6 n8
   have a5:=Zb e6 n8.below
   have d3:=blB f2 hBw n8.below
   refine ybi (.o [] 9) (.t B [114,100]) fun _ _ _ _ zJ zQ zo zx zy zK=>Zw (m:=1) (news:=[V0 kind,V0 (Kr (fs.getD i ([],0)).1),V0 ((fs.getD i ([],0)).2)]) (.agg #[V0 0,V0 0,V0 0]) 3 24 ((D.length+(i+1))) (((D++(fs.take (i+1)).map (Xk kind)).flatMap dmc)) zo Tryz.underlying47 (by kernel_rfl) rfl (by decide) zx a5 zy (n8.blk.sl 1 1 (by decide) (by decide)) rfl (by simp[Value.oneCell']) (by unfold maxLen;omega) (by omega) (Nat.le_trans hBw d3.size) (by omega) (by rw[Cu D kind (by omega)]) fun i1 i3 W9 o9 d2 h2=>?_
   refine zK _ _ (Zu h2 d2 a5 (by decide)) ?_
   have a0:=(a9.below n8.below).grown d2 a5 (by decide)
   refine ys (.o [10,11] 12) a0 [.slice i1 (D.length+(i+1)) i3,c1,c2,c3,c4,c5,c6,c7,c8,c9,c10,c11,c12,c13,c14,c15,c16] (.t B [114,100]) fun j2 b6 i6=>⟨(Zp b6 a0 hBb (by decide)),?_⟩
   refine xwm 4 ((i:Int)+1) (↑(i+1):Int) ?_
   have f8:=b6.below (d3.trans h2) hBb
   have f6:=((((b3.trans (Ze.of_below (Za W1))).trans (Ze.of_below a7)).trans (Ze.of_below n8.below)).trans (Ze.of_grown d2 a5 (by decide))).trans (Ze.of_upd b6 a0 (by decide))
   have g7:=b6.own2 o9 a0 (by decide)
   have d6:=b6.own2 (Zf (Zb (Zb (Zb hFl (Za W1)) a7) n8.below) d2 a5 (by decide)) a0 (by decide)
   have e5:=((((hFv.below (Za W1)).below a7).below n8.below).only (Ze.of_grown (T:=[100]) d2 a5 (by decide)) (by decide)).only (Ze.of_upd (T:=[114]) b6 a0 (by decide)) (by decide)
   have g1:=((((hM.below (Za W1)).below a7).below n8.below).grown d2 a5).updBlk b6 a0
   exact ze 2 (g9 _ _ _ ⟨i+1,_,_,rfl,rfl,f8,f6,i6,g7,d6,e5,g1,by omega⟩ (by omega))
  refine xbs 0 1 [V0 kind,V0 (Kr (fs.getD i ([],0)).1),V0 ((fs.getD i ([],0)).2)] 100 fun j3 j0 b2=>?_
  have d7:=blB b7 hBw a7
  have i8:=b2.ge0 d7
  have f1:=Zb (Zb ho (Za W1)) a7
  have g0:=Zx f1 b2
  have a6:=((a8.below (Za W1)).below a7).below b2.below
  refine xb (.o [] 4) 0 a6 ?_
  have a3:=Zb f1 b2.below
  have b5:=blB d7 hBw b2.below
  refine ybi (.o [] 9) (.t B [114,100]) fun _ _ _ _ zJ zQ zo zx zy zK=>Zw (m:=1) (news:=[V0 kind,V0 (Kr (fs.getD i ([],0)).1),V0 ((fs.getD i ([],0)).2)]) (.agg #[V0 0,V0 0,V0 0]) 3 24 ((D.length+(i+1))) (((D++(fs.take (i+1)).map (Xk kind)).flatMap dmc)) zo Tryz.underlying47 (by kernel_rfl) rfl (by decide) zx a3 zy (b2.blk.sl 1 1 (by decide) (by decide)) rfl (by simp[Value.oneCell']) (by unfold maxLen;omega) (by omega) (Nat.le_trans hBw b5.size) (by omega) (by rw[Cu D kind (by omega)]) fun g6 f5 i9 h9 b1 e3=>?_
  refine zK _ _ (Zu e3 b1 a3 (by decide)) ?_
  have a1:=a6.grown b1 a3 (by decide)
  refine ys (.o [10,11] 12) a1 [.slice g6 (D.length+(i+1)) f5,c1,c2,c3,c4,c5,c6,c7,c8,c9,c10,c11,c12,c13,c14,c15,c16] (.t B [114,100]) fun j1 d0 i2=>⟨(Zp d0 a1 hBb (by decide)),?_⟩
  refine xwm 4 ((i:Int)+1) (↑(i+1):Int) ?_
  have e1:=d0.below (b5.trans e3) hBb
  have f9:=((((b3.trans (Ze.of_below (Za W1))).trans (Ze.of_below a7)).trans (Ze.of_below b2.below)).trans (Ze.of_grown b1 a3 (by decide))).trans (Ze.of_upd d0 a1 (by decide))
  have e0:=d0.own2 h9 a1 (by decide)
  have d4:=d0.own2 (Zf (Zb (Zb (Zb hFl (Za W1)) a7) b2.below) b1 a3 (by decide)) a1 (by decide)
  have d8:=((((hFv.below (Za W1)).below a7).below b2.below).only (Ze.of_grown (T:=[100]) b1 a3 (by decide)) (by decide)).only (Ze.of_upd (T:=[114]) d0 a1 (by decide)) (by decide)
  have f7:=((((hM.below (Za W1)).below a7).below b2.below).grown b1 a3).updBlk d0 a1
  exact ze 2 (g9 _ _ _ ⟨i+1,_,_,rfl,rfl,e1,f9,i2,e0,d4,d8,f7,by omega⟩ (by omega))
 refine xe 4 (.tuple #[]) ?_
 obtain rfl:i=fs.length:=by omega
 have e9:D.length+fs.length=(D++fs.map (Xk kind)).length:=by simp
 have h3:=ho
 have h0:=a8
 rw[List.take_of_length_le (Nat.le_refl _),e9] at h3
 rw[e9] at h0
 exact⟨⟨_,rfl⟩,_,_,b9,b3,h0,h3,hM⟩
theorem Kx(Bi b:Nat)(pi:O0)(ni ci:Nat)(l:Bl)(root tree fuel:Int)(w:World)(hfu:fuel≤1000)(hI:ImgR Bi b pi ni ci l w) :
 C0 108 #[P0 b,V0 root,V0 tree,V0 fuel] w (fun e w'=>∃ pe pb pf ce cb cf fv,e=.returned (.agg #[.slice pe (Zd l root tree fuel).es.length ce,.slice pb (Zd l root tree fuel).bs.length cb,V0 (Zd l root tree fuel).deep,V0 ((Zd l root tree fuel).looked:Int),.slice pf (Zd l root tree fuel).fs.length cf])∧B0 w w' ∧
 w'.ownsRow w.heap.size 123 3 (.slice pe (Zd l root tree fuel).es.length ce) (Zd l root tree fuel).es.length ((Zd l root tree fuel).es.flatMap Vt)∧w'.ownsRow w.heap.size 29 1 (.slice pf (Zd l root tree fuel).fs.length cf) (Zd l root tree fuel).fs.length fv∧Kh w' (Zd l root tree fuel).fs fv):=by
 refine(Zg0 Bi b pi ni ci l root tree fuel w hfu hI).mono ?_
 rintro e W ⟨pe,pb,pf,ce,cb,cf,fv,rfl,hb,h⟩
 exact⟨pe,pb,pf,ce,cb,cf,fv,rfl,hb,h.ents,h.flts,h.fltv⟩
theorem Uy{data:Int}{es:List Ent}{i:Nat}(D:List Dg)(hi:i<es.length)(h:Vj data (es.getD i Zj).2.1≠0):D++Jm data (es.take (i+1))=D++Jm data (es.take i)++[((3:Int),(es.getD i Zj).2.2,Vj data (es.getD i Zj).2.1)]:=by
 rw[Ig hi,mapG1_bad h,List.append_assoc]
theorem Dk{data:Int}{es:List Ent}{i:Nat}(hi:i<es.length)(h:Vj data (es.getD i Zj).2.1=0):Jm data (es.take (i+1))=Jm data (es.take i):=by
 rw[Ig hi,mapG1_ok h,List.append_nil]
theorem Ki{data:Int}{es:List Ent}{i:Nat}(hi:i<es.length)(h:Vj data (es.getD i Zj).2.1≠0):mapM data (es.take (i+1))=mapM data (es.take i):=by
 rw[Tk hi,mapM1_bad h,List.append_nil]
theorem Ls{data:Int}{es:List Ent}{i:Nat}(hi:i<es.length)(h:Vj data (es.getD i Zj).2.1=0):(mapM data (es.take (i+1))).flatMap Hs=(mapM data (es.take i)).flatMap Hs++Hs (Zfn (es.getD i Zj))∧(mapM data (es.take (i+1))).length=(mapM data (es.take i)).length+1:=by
 rw[Tk hi,Zcj h,List.flatMap_append]
 simp
theorem Cv(data:Int)(es:List Ent)(i:Nat):(Jm data (es.take i)).length≤es.length:=by
 have h1:=Zcb data (es.take i);have h2:=List.length_take_le' i es;omega
theorem Sz(data:Int)(es:List Ent)(i:Nat):(mapM data (es.take i)).length≤es.length:=by
 have h1:=Zch data (es.take i);have h2:=List.length_take_le' i es;omega
theorem Hl{data:Int}{v:Bl}(h:Xt Vn v≠0):Vj data v=Xt Vn v:=if_pos h
theorem Ua{data:Int}{v:Bl}(h:Xt Vn v=0)(h2:data≤(Mb v:Int)):Vj data v=2:=by unfold Vj;rw[if_neg (fun q=>q h),if_pos h2]
theorem Pf{data:Int}{v:Bl}(h:Xt Vn v=0)(h2:¬ data≤(Mb v:Int)):Vj data v=0:=by unfold Vj;rw[if_neg (fun q=>q h),if_neg h2]
def AuDevP(B bx:Nat)(cs:List Value)(D:List Dg)(ra rb rc:Nat)(kd kr km:List (Int×Value))(L:List Mp)(G:List Dg)(w:World)(e:Ending)(w':World):Prop :=
 ∃ po co,e=.returned (.slice po L.length co)∧w'.ownsRow w.heap.size 164 3 (.slice po L.length co) L.length (L.flatMap Hs)∧Cx B bx cs (D++G) ra rb rc kd kr km w w'
theorem Gh(B bx:Nat)(p:O0)(c:Nat)(D:List Dg)(ra rb rc:Nat)(kd kr km:List (Int×Value))(pi:O0)(ni ci Bi b:Nat)(l:Bl)(s:Sup)(fuel:Int)(r:Int)(w:World)(hk:Blk w bx [.slice p D.length c,P0 b,V0 s.tx,V0 s.time,V0 s.unit,V0 s.data,V0 s.blocks,V0 s.top,V0 s.details,V0 s.dslots,V0 s.dover,V0 s.mindex,V0 s.mover,V0 fuel,.map (some ra),.map (some rb),.map (some rc)] 114)(ho:w.ownsRow B 100 3 (.slice p D.length c) D.length (D.flatMap dmc))(hM:Maps3 B ra rb rc kd kr km w)(hI:ImgR Bi b pi ni ci l w)(hfu:fuel≤1000)(hg:∀ W,Below B w W→Sm W)(hBb:B≤bx)(hBw:B≤w.heap.size)(hl:D.length≤900000000) :
 C0 112 #[P0 bx,V0 r] w (AuDevP B bx [P0 b,V0 s.tx,V0 s.time,V0 s.unit,V0 s.data,V0 s.blocks,V0 s.top,V0 s.details,V0 s.dslots,V0 s.dover,V0 s.mindex,V0 s.mover,V0 fuel,.map (some ra),.map (some rb),.map (some rc)] D ra rb rc kd kr km (Jl l s.data fuel r) (Zak l s.data fuel r) w):=by
 have t7:=Gw l r 2 fuel hfu
 have s6:w.heap.size≤w.heap.size:=Nat.le_refl _
 refine zin 71 Tryz.func112 ?_
 refine xd 6 (.t B [130]) ?_
 have f4:=hk.below (Za w)
 refine xbt (.e [0,1,2] 3) 1 B [130] f4 ?_
 refine xbt (.e [4,5,6,7] 8) 13 B [130] f4 ?_
 refine xm2 0 9 10 ?_ ?_
 ·have j7:=hI.below (Za w)
  refine yc 0 (args:=#[P0 b,V0 r,V0 2,V0 fuel]) (.t B [130]) (Kx Bi b pi ni ci l r 2 fuel _ hfu j7) ?_
  rintro _ W1 ⟨pe,pb,pf,ce,cb,cf,fv,rfl,h0,a9,h4,r1⟩
  have s7:=(blB (Below.refl B w) hBw (Za w)).size
  refine⟨(SF.of_below _ h0),?_⟩
  have j0:=Zg a9 s7
  have k5:=Zg h4 s7
  replace a9:=Zg j0 hBw
  replace h4:=Zg k5 hBw
  refine xa (.o [] 10) [S0,S0,V0 0,V0 0,S0] 130 fun b2 W2 n2=>?_
  have g2:=n2.ge0 (blB (blB (Below.refl B w) hBw (Za w)) hBw h0)
  refine ysv (.o [] 11) n2.blk [.slice pe ((Zd l r 2 fuel).es.length) ce,.slice pb ((Zd l r 2 fuel).bs.length) cb,V0 ((Zd l r 2 fuel).deep),V0 (↑(Zd l r 2 fuel).looked:Int),.slice pf ((Zd l r 2 fuel).fs.length) cf] (.t B [130]) fun W3 u3 k3=>⟨(Zp u3 n2.blk (Nat.le_trans hBw g2) (by decide)),?_⟩
  refine xd 3 (.t B [114,100]) ?_
  have j1:=k3.below (Za W3)
  refine xbt (.e [0,1,2,3] 4) 4 B [114,100] j1 ?_
  have p9:=Zb (u3.own2 (Zb (Zb (Zb ho (Za w)) h0) n2.below) n2.blk (by decide)) (Za W3)
  have s0:=((((hM.below (Za w)).below h0).below n2.below).updBlk u3 n2.blk).below (Za W3)
  have i6:=Zb (u3.own2 (Zb h4 n2.below) n2.blk (by decide)) (Za W3)
  have r9:=(u3.blkT ((f4.below h0).below n2.below) n2.blk (by decide)).below (Za W3)
  have k9:=((r1.below n2.below).only (Ze.of_upd (T:=[130]) u3 n2.blk (by decide)) (by decide)).below (Za W3)
  have hB:=blB (u3.below (blB (blB (blB (Below.refl B w) hBw (Za w)) hBw h0) hBw n2.below) (Nat.le_trans hBw g2)) hBw (Za W3)
  refine yc (.o [] 5) (args:=#[P0 bx,V0 3,.slice pf ((Zd l r 2 fuel).fs.length) cf]) (.t B [114,100]) (Qp B bx _ _ D ra rb rc _ _ _ _ _ _ _ _ _ _ _ _ _ _ _ _ _ _ _ 3 pf cf (Zd l r 2 fuel).fs fv _ r9 p9 s0 i6 k9 (He _ _ _ _) (fun W hb=>hg W (Below.trans hB hb)) hBb (Nat.le_trans hBw hB.size) (by first|omega|(simp;omega))) ?_
  rintro _ W4 ⟨⟨u4,rfl⟩,p4,c4,s5,j5,t0,t6,hM⟩
  refine⟨(Yh s5 j5),?_⟩
  have l2:=j1.only j5 (by decide)
  refine xb 11 0 l2 ?_
  have k2:=t0
  have j3:=t6
  rw[(by simp[Jm]:D++(Zd l r 2 fuel).fs.map (Xk 3)=D++(Zd l r 2 fuel).fs.map (Xk 3)++Jm s.data ((Zd l r 2 fuel).es.take 0))] at k2 j3
  have j4:=Zn (Zb (u3.own2 (Zb a9 n2.below) n2.blk (by decide)) (Za W3)) j5 (by decide)
  have s1:=((((j7.below h0).below n2.below).only (Ze.of_upd (T:=[130]) u3 n2.blk (by decide)) (by decide)).below (Za W3)).only j5 (by decide)
  have r6:=hB.trans s5
  have hO:=((Ze.upd_new (((show Ze [114,100] w _ from(Ze.of_below (Za w))).trans (Ze.of_below h0)).trans (Ze.of_below n2.below)) u3 g2).trans (Ze.of_below (Za W3))).trans j5
  refine zl 5 71 (fun zm o3 V=>∃ (i:Nat) (p:O0) (c:Nat) (po:O0) (co:Nat),o3=[(0,P0 bx),(4,S0),(6,.slice po ((mapM s.data ((Zd l r 2 fuel).es.take i)).length) co),(29,.slice pe ((Zd l r 2 fuel).es.length) ce),(30,V0 (↑((Zd l r 2 fuel).es.length):Int)),(31,V0 (i:Int))]∧zm=(Zd l r 2 fuel).es.length-((i:Int)).toNat∧Below B w V∧Ze [114,100] w V∧Blk V bx ([.slice p ((D++(Zd l r 2 fuel).fs.map (Xk 3)++Jm s.data ((Zd l r 2 fuel).es.take i)).length) c,P0 b,V0 s.tx,V0 s.time,V0 s.unit,V0 s.data,V0 s.blocks,V0 s.top,V0 s.details,V0 s.dslots,V0 s.dover,V0 s.mindex,V0 s.mover,V0 fuel,.map (some ra),.map (some rb),.map (some rc)]) 114∧Blk V b2 ([.slice pe ((Zd l r 2 fuel).es.length) ce,.slice pb ((Zd l r 2 fuel).bs.length) cb,V0 ((Zd l r 2 fuel).deep),V0 (↑(Zd l r 2 fuel).looked:Int),.slice pf ((Zd l r 2 fuel).fs.length) cf]) 130∧V.ownsRow B 100 3 (.slice p (D++(Zd l r 2 fuel).fs.map (Xk 3)++Jm s.data ((Zd l r 2 fuel).es.take i)).length c) (D++(Zd l r 2 fuel).fs.map (Xk 3)++Jm s.data ((Zd l r 2 fuel).es.take i)).length ((D++(Zd l r 2 fuel).fs.map (Xk 3)++Jm s.data ((Zd l r 2 fuel).es.take i)).flatMap dmc)∧V.ownsRow B 123 3 (.slice pe (Zd l r 2 fuel).es.length ce) (Zd l r 2 fuel).es.length ((Zd l r 2 fuel).es.flatMap Vt)∧V.ownsRow w.heap.size 164 3 (.slice po (mapM s.data ((Zd l r 2 fuel).es.take i)).length co) (mapM s.data ((Zd l r 2 fuel).es.take i)).length ((mapM s.data ((Zd l r 2 fuel).es.take i)).flatMap Hs)∧Maps3 B ra rb rc kd kr km V∧ImgR Bi b pi ni ci l V∧i≤(Zd l r 2 fuel).es.length) ⟨0,_,_,none,0,rfl,rfl,r6,hO,k2,l2,j3,j4,World.ownsRow_nil _ _ _ _,hM,s1,Nat.zero_le _⟩ ?_
  rintro _ _ W5 ⟨i,p,c,po,co,rfl,rfl,d8,f8,e4,e2,ho,a9,f7,hM,hI,hi⟩ J5 q1 r5
  have u0:=Cv s.data (Zd l r 2 fuel).es i
  have t2:=Sz s.data (Zd l r 2 fuel).es i
  have t9:=Gw l r 2 fuel hfu
  refine xid 6 ((i:Int)<(↑((Zd l r 2 fuel).es.length):Int)) (fun t1=>?_) (fun t1=>?_)
  ·refine xx 6 _ ((Zd l r 2 fuel).es.length) i 3 (Sts.cell (f:=Vt) (Zh a9) Zy Zj (k:=i) (i:=0) (by omega) rfl).1 ?_
   refine xlv 0 (Sts.rp (k:=i) (Zh a9) Zy Zj (by omega) (by decide)) ?_
   refine xa 0 [V0 0,.string ⟨#[]⟩,V0 0] 123 fun b7 W7 n7=>?_
   have g7:=n7.ge0 d8
   have c5:=Zx a9 n7
   refine xsv 0 n7.blk [V0 (((Zd l r 2 fuel).es.getD i Zj).1),.string ⟨(((Zd l r 2 fuel).es.getD i Zj).2.1).toArray⟩,V0 (((Zd l r 2 fuel).es.getD i Zj).2.2)] fun W8 u8 k8=>?_
   refine xb 5 1 k8 ?_
   refine xr 0 (args:=#[.string ⟨(((Zd l r 2 fuel).es.getD i Zj).2.1).toArray⟩]) (Pn ((Zd l r 2 fuel).es.getD i Zj).2.1 _ (Yq _ _ _ _ i (by omega))) fun W9 a3=>?_
   refine xg 15 [43,44] ((Xt Vn ((Zd l r 2 fuel).es.getD i Zj).2.1)==(0:Int)) (fun e3=>?_) (fun e3=>?_)
   ·have e3:=eq_of_beq e3
    have b4:=(u8.blkT (e4.below n7.below) n7.blk (by decide)).below a3
    refine xb 5 5 b4 ?_
    refine xid 4 ((↑(Mb ((Zd l r 2 fuel).es.getD i Zj).2.1):Int)≥s.data) (fun p5=>?_) (fun p5=>?_)
    ·have b3:(Vj s.data ((Zd l r 2 fuel).es.getD i Zj).2.1)=2:=Ua (by omega) (by omega)
     have a8:(Vj s.data ((Zd l r 2 fuel).es.getD i Zj).2.1)≠0:=by rw[b3];decide
     refine xv1 5 11 (show(V0 2:Value)=V0 (Vj s.data ((Zd l r 2 fuel).es.getD i Zj).2.1) from(congrArg V0 b3.symm)) ?_
     refine xd 0 (.t B [114,100]) ?_
     have q9:=(k8.below a3).below (Za W9)
     refine xbt (.e [0,1,2,3] 4) 2 B [114,100] q9 ?_
     have o2:=Zb (Zb (u8.own2 (Zb ho n7.below) n7.blk (by decide)) a3) (Za W9)
     have r2:=(((hM.below n7.below).updBlk u8 n7.blk).below a3).below (Za W9)
     have f0:=b4.below (Za W9)
     have i5:=blB (blB (u8.below (blB d8 hBw n7.below) (Nat.le_trans hBw g7)) hBw a3) hBw (Za W9)
     refine yc (.o [5] 6) (args:=#[P0 bx,V0 3,V0 (((Zd l r 2 fuel).es.getD i Zj).2.2),V0 (Vj s.data ((Zd l r 2 fuel).es.getD i Zj).2.1)]) (.t B [114,100]) (Xy B bx _ _ (D++(Zd l r 2 fuel).fs.map (Xk 3)++Jm s.data ((Zd l r 2 fuel).es.take i)) ra rb rc _ _ _ _ _ _ _ _ _ _ _ _ _ _ _ _ _ _ _ 3 (((Zd l r 2 fuel).es.getD i Zj).2.2) (Vj s.data ((Zd l r 2 fuel).es.getD i Zj).2.1) _ (by first|assumption|decide|omega) f0 o2 r2 hBb (Nat.le_trans hBw i5.size) (by first|omega|(simp;omega))) ?_
     rintro _ v6 ⟨rfl,pa,ca,j8,d0,h5,h3,hM⟩
     refine⟨(Yh j8 d0),?_⟩
     refine xwm (.r [7] 7) ((i:Int)+1) (↑(i+1):Int) ?_
     have l6:=Zn (Zb (Zb (u8.own2 (Zb f7 n7.below) n7.blk (by decide)) a3) (Za W9)) d0 (by decide)
     refine xv1 2 6 (show(.slice po ((mapM s.data ((Zd l r 2 fuel).es.take i)).length) co:Value)=.slice po ((mapM s.data ((Zd l r 2 fuel).es.take (i+1))).length) co from by rw[Ki (by omega) a8]) ?_
     have b9:=h5
     have c0:=h3
     have c7:=l6
     rw[←Uy _ (by omega) a8] at b9 c0
     rw[←Ki (by omega) a8] at c7
     have p2:=i5.trans j8
     have r7:=(((Ze.upd_new (f8.trans (Ze.of_below n7.below)) u8 g7).trans (Ze.of_below a3)).trans (Ze.of_below (Za W9))).trans d0
     have e9:=(((u8.blkT (e2.below n7.below) n7.blk (by decide)).below a3).below (Za W9)).only d0 (by decide)
     have l0:=Zn (Zb (Zb (u8.own3 (Zb a9 n7.below) c5) a3) (Za W9)) d0 (by decide)
     have q3:=((((hI.below n7.below).only (Ze.of_upd (T:=[123]) u8 n7.blk (by decide)) (by decide)).below a3).below (Za W9)).only d0 (by decide)
     exact ze 0 (q1 _ _ _ ⟨i+1,_,_,_,_,rfl,rfl,p2,r7,b9,e9,c0,l0,c7,hM,q3,by omega⟩ (by omega))
    have a8:(Vj s.data ((Zd l r 2 fuel).es.getD i Zj).2.1)=0:=Pf (by omega) (by omega)
    have s4:Xt Vn ((Zd l r 2 fuel).es.getD i Zj).2.1=0:=by omega
    refine xv1 3 11 (show(V0 (Xt Vn ((Zd l r 2 fuel).es.getD i Zj).2.1):Value)=V0 0 from(congrArg V0 s4)) ?_
    refine xd 0 (.t B [114,100]) ?_
    have m5:=(k8.below a3).below (Za W9)
    refine xbt (.e [0,1,2,3] 4) 2 B [114,100] m5 ?_
    refine xr (.o [5] 6) (args:=#[P0 bx,V0 3,V0 (((Zd l r 2 fuel).es.getD i Zj).2.2),V0 0]) (Ud bx 3 (((Zd l r 2 fuel).es.getD i Zj).2.2) _) fun w1 b0=>?_
    have r8:=m5.below b0
    refine xb (.r [7] 6) 0 r8 ?_
    refine xbs 3 1 [V0 (((Zd l r 2 fuel).es.getD i Zj).1),V0 (↑(Mb ((Zd l r 2 fuel).es.getD i Zj).2.1):Int),V0 (↑(Ef ((Zd l r 2 fuel).es.getD i Zj).2.1):Int)] 164 fun v0 u7 d6=>?_
    have m0:=blB (blB (blB (u8.below (blB d8 hBw n7.below) (Nat.le_trans hBw g7)) hBw a3) hBw (Za W9)) hBw b0
    have x1:=d6.ge0 m0
    have g8:=Zb (Zb (Zb (u8.own2 (Zb f7 n7.below) n7.blk (by decide)) a3) (Za W9)) b0
    have m7:=Zx g8 d6
    have a6:=Zb g8 d6.below
    have i8:=blB m0 hBw d6.below
    refine xbi 0 fun _ _ _ _ zJ zQ zo zx zy zK=>Zw (m:=1) (news:=[V0 (((Zd l r 2 fuel).es.getD i Zj).1),V0 (↑(Mb ((Zd l r 2 fuel).es.getD i Zj).2.1):Int),V0 (↑(Ef ((Zd l r 2 fuel).es.getD i Zj).2.1):Int)]) (.agg #[V0 0,V0 0,V0 0]) 3 24 ((mapM s.data ((Zd l r 2 fuel).es.take (i+1))).length) (((mapM s.data ((Zd l r 2 fuel).es.take (i+1))).flatMap Hs)) zo Tryz.underlying59 (by kernel_rfl) rfl (by decide) zx a6 zy (d6.blk.sl 1 1 (by decide) (by decide)) rfl (by simp[Value.oneCell']) (by unfold maxLen;omega) (by omega) (Nat.le_trans s6 i8.size) (by rw[(Ls (by omega) a8).2]) (by rw[(Ls (by omega) a8).1];rfl) fun s8 t5 w8 t4 c6 q5=>?_
    refine zK _ _ ?_
    refine xwm 5 ((i:Int)+1) (↑(i+1):Int) ?_
    have f1:=(((b4.below (Za W9)).below b0).below d6.below).grown c6 a6 (by decide)
    have q0:=Zf (Zb (Zb (Zb (Zb (u8.own2 (Zb ho n7.below) n7.blk (by decide)) a3) (Za W9)) b0) d6.below) c6 a6 (by decide)
    have b9:=f1
    have c0:=q0
    have c7:=t4
    rw[←Dk (by omega) a8] at b9 c0
    have q8:=i8.trans (q5.mono hBw)
    have n4:=(Ze.grown_new (((((Ze.upd_new (f8.trans (Ze.of_below n7.below)) u8 g7).trans (Ze.of_below a3)).trans (Ze.of_below (Za W9))).trans (Ze.of_below b0)).trans (Ze.of_below d6.below)) c6 a6)
    have f6:=(((((u8.blkT (e2.below n7.below) n7.blk (by decide)).below a3).below (Za W9)).below b0).below d6.below).grown c6 a6 (by decide)
    have m6:=Zf (Zb (Zb (Zb (Zb (u8.own3 (Zb a9 n7.below) c5) a3) (Za W9)) b0) d6.below) c6 a6 (by decide)
    have n6:=((((((hM.below n7.below).updBlk u8 n7.blk).below a3).below (Za W9)).below b0).below d6.below).grown c6 a6
    have r4:=((((((hI.below n7.below).only (Ze.of_upd (T:=[123]) u8 n7.blk (by decide)) (by decide)).below a3).below (Za W9)).below b0).below d6.below).only (Ze.of_grown (T:=[164]) c6 a6 (by decide)) (by decide)
    exact ze 2 (q1 _ _ _ ⟨i+1,_,_,_,_,rfl,rfl,q8,n4,b9,f6,c0,m6,c7,n6,r4,by omega⟩ (by omega))
   have e3:=Xl e3
   have b3:(Vj s.data ((Zd l r 2 fuel).es.getD i Zj).2.1)=Xt Vn ((Zd l r 2 fuel).es.getD i Zj).2.1:=Hl (by omega)
   have a8:(Vj s.data ((Zd l r 2 fuel).es.getD i Zj).2.1)≠0:=by omega
   refine xv1 14 11 (show(V0 (Xt Vn ((Zd l r 2 fuel).es.getD i Zj).2.1):Value)=V0 (Vj s.data ((Zd l r 2 fuel).es.getD i Zj).2.1) from(congrArg V0 b3.symm)) ?_
   refine xd 0 (.t B [114,100]) ?_
   have n5:=(k8.below a3).below (Za W9)
   refine xbt (.e [0,1,2,3] 4) 2 B [114,100] n5 ?_
   have o9:=Zb (Zb (u8.own2 (Zb ho n7.below) n7.blk (by decide)) a3) (Za W9)
   have p8:=(((hM.below n7.below).updBlk u8 n7.blk).below a3).below (Za W9)
   have f3:=((u8.blkT (e4.below n7.below) n7.blk (by decide)).below a3).below (Za W9)
   have i2:=blB (blB (u8.below (blB d8 hBw n7.below) (Nat.le_trans hBw g7)) hBw a3) hBw (Za W9)
   refine yc (.o [5] 6) (args:=#[P0 bx,V0 3,V0 (((Zd l r 2 fuel).es.getD i Zj).2.2),V0 (Vj s.data ((Zd l r 2 fuel).es.getD i Zj).2.1)]) (.t B [114,100]) (Xy B bx _ _ (D++(Zd l r 2 fuel).fs.map (Xk 3)++Jm s.data ((Zd l r 2 fuel).es.take i)) ra rb rc _ _ _ _ _ _ _ _ _ _ _ _ _ _ _ _ _ _ _ 3 (((Zd l r 2 fuel).es.getD i Zj).2.2) (Vj s.data ((Zd l r 2 fuel).es.getD i Zj).2.1) _ (by first|assumption|decide|omega) f3 o9 p8 hBb (Nat.le_trans hBw i2.size) (by first|omega|(simp;omega))) ?_
   rintro _ v1 ⟨rfl,pa,ca,k0,d1,h5,h3,hM⟩
   refine⟨(Yh k0 d1),?_⟩
   refine xwm (.r [7] 7) ((i:Int)+1) (↑(i+1):Int) ?_
   have k6:=Zn (Zb (Zb (u8.own2 (Zb f7 n7.below) n7.blk (by decide)) a3) (Za W9)) d1 (by decide)
   refine xv1 2 6 (show(.slice po ((mapM s.data ((Zd l r 2 fuel).es.take i)).length) co:Value)=.slice po ((mapM s.data ((Zd l r 2 fuel).es.take (i+1))).length) co from by rw[Ki (by omega) a8]) ?_
   have b9:=h5
   have c0:=h3
   have c7:=k6
   rw[←Uy _ (by omega) a8] at b9 c0
   rw[←Ki (by omega) a8] at c7
   have o0:=i2.trans k0
   have p7:=(((Ze.upd_new (f8.trans (Ze.of_below n7.below)) u8 g7).trans (Ze.of_below a3)).trans (Ze.of_below (Za W9))).trans d1
   have f2:=(((u8.blkT (e2.below n7.below) n7.blk (by decide)).below a3).below (Za W9)).only d1 (by decide)
   have l7:=Zn (Zb (Zb (u8.own3 (Zb a9 n7.below) c5) a3) (Za W9)) d1 (by decide)
   have r3:=((((hI.below n7.below).only (Ze.of_upd (T:=[123]) u8 n7.blk (by decide)) (by decide)).below a3).below (Za W9)).only d1 (by decide)
   exact ze 0 (q1 _ _ _ ⟨i+1,_,_,_,_,rfl,rfl,o0,p7,b9,f2,c0,l7,c7,hM,r3,by omega⟩ (by omega))
  refine xe 12 (.slice po ((mapM s.data ((Zd l r 2 fuel).es.take i)).length) co) ?_
  obtain rfl:i=(Zd l r 2 fuel).es.length:=by omega
  have h8:=e4
  have i9:=ho
  have k1:=f7
  rw[List.take_of_length_le (Nat.le_refl _)] at k1
  rw[List.take_of_length_le (Nat.le_refl _),List.append_assoc] at h8 i9
  rw[List.take_of_length_le (Nat.le_refl _)]
  exact⟨_,_,rfl,k1,_,_,d8,f8,h8,i9,hM⟩
 refine xa 0 [S0,S0,V0 0,V0 0,S0] 130 fun u1 w3 f9=>?_
 have j9:=(hI.below (Za w)).below f9.below
 refine yc (.o [] 9) (args:=#[P0 b,V0 r,V0 2,V0 fuel]) (.t B [130]) (Kx Bi b pi ni ci l r 2 fuel _ hfu j9) ?_
 rintro _ w5 ⟨pe,pb,pf,ce,cb,cf,fv,rfl,c1,a9,h4,r1⟩
 have m1:=(blB (blB (Below.refl B w) hBw (Za w)) hBw f9.below).size
 refine⟨(SF.of_below _ c1),?_⟩
 have l1:=Zg a9 m1
 have i4:=Zg h4 m1
 replace a9:=Zg l1 hBw
 replace h4:=Zg i4 hBw
 have f5:=f9.blk.below c1
 have o8:=f9.ge0 (blB (Below.refl B w) hBw (Za w))
 refine ysv (.o [] 11) f5 [.slice pe ((Zd l r 2 fuel).es.length) ce,.slice pb ((Zd l r 2 fuel).bs.length) cb,V0 ((Zd l r 2 fuel).deep),V0 (↑(Zd l r 2 fuel).looked:Int),.slice pf ((Zd l r 2 fuel).fs.length) cf] (.t B [130]) fun e8 e7 s9=>⟨(Zp e7 f5 (Nat.le_trans hBw o8) (by decide)),?_⟩
 refine xd 3 (.t B [114,100]) ?_
 have g6:=s9.below (Za e8)
 refine xbt (.e [0,1,2,3] 4) 4 B [114,100] g6 ?_
 have q6:=Zb (e7.own2 (Zb (Zb (Zb ho (Za w)) f9.below) c1) f5 (by decide)) (Za e8)
 have n3:=((((hM.below (Za w)).below f9.below).below c1).updBlk e7 f5).below (Za e8)
 have l9:=Zb (e7.own2 h4 f5 (by decide)) (Za e8)
 have r0:=(e7.blkT ((f4.below f9.below).below c1) f5 (by decide)).below (Za e8)
 have k4:=(r1.only (Ze.of_upd (T:=[130]) e7 f5 (by decide)) (by decide)).below (Za e8)
 have hB:=blB (e7.below (blB (blB (blB (Below.refl B w) hBw (Za w)) hBw f9.below) hBw c1) (Nat.le_trans hBw o8)) hBw (Za e8)
 refine yc (.o [] 5) (args:=#[P0 bx,V0 3,.slice pf ((Zd l r 2 fuel).fs.length) cf]) (.t B [114,100]) (Qp B bx _ _ D ra rb rc _ _ _ _ _ _ _ _ _ _ _ _ _ _ _ _ _ _ _ 3 pf cf (Zd l r 2 fuel).fs fv _ r0 q6 n3 l9 k4 (He _ _ _ _) (fun W hb=>hg W (Below.trans hB hb)) hBb (Nat.le_trans hBw hB.size) (by first|omega|(simp;omega))) ?_
 rintro _ w9 ⟨⟨w2,rfl⟩,w7,v8,i0,e6,p0,q2,hM⟩
 refine⟨(Yh i0 e6),?_⟩
 have g9:=g6.only e6 (by decide)
 refine xb 11 0 g9 ?_
 have k2:=p0
 have j3:=q2
 rw[(by simp[Jm]:D++(Zd l r 2 fuel).fs.map (Xk 3)=D++(Zd l r 2 fuel).fs.map (Xk 3)++Jm s.data ((Zd l r 2 fuel).es.take 0))] at k2 j3
 have i7:=Zn (Zb (e7.own2 a9 f5 (by decide)) (Za e8)) e6 (by decide)
 have p3:=(((j9.below c1).only (Ze.of_upd (T:=[130]) e7 f5 (by decide)) (by decide)).below (Za e8)).only e6 (by decide)
 have n9:=hB.trans i0
 have hO:=((Ze.upd_new (((show Ze [114,100] w _ from(Ze.of_below (Za w))).trans (Ze.of_below f9.below)).trans (Ze.of_below c1)) e7 o8).trans (Ze.of_below (Za e8))).trans e6
 refine zl 5 71 (fun zm o3 V=>∃ (i:Nat) (p:O0) (c:Nat) (po:O0) (co:Nat),o3=[(0,P0 bx),(4,S0),(6,.slice po ((mapM s.data ((Zd l r 2 fuel).es.take i)).length) co),(29,.slice pe ((Zd l r 2 fuel).es.length) ce),(30,V0 (↑((Zd l r 2 fuel).es.length):Int)),(31,V0 (i:Int))]∧zm=(Zd l r 2 fuel).es.length-((i:Int)).toNat∧Below B w V∧Ze [114,100] w V∧Blk V bx ([.slice p ((D++(Zd l r 2 fuel).fs.map (Xk 3)++Jm s.data ((Zd l r 2 fuel).es.take i)).length) c,P0 b,V0 s.tx,V0 s.time,V0 s.unit,V0 s.data,V0 s.blocks,V0 s.top,V0 s.details,V0 s.dslots,V0 s.dover,V0 s.mindex,V0 s.mover,V0 fuel,.map (some ra),.map (some rb),.map (some rc)]) 114∧Blk V u1 ([.slice pe ((Zd l r 2 fuel).es.length) ce,.slice pb ((Zd l r 2 fuel).bs.length) cb,V0 ((Zd l r 2 fuel).deep),V0 (↑(Zd l r 2 fuel).looked:Int),.slice pf ((Zd l r 2 fuel).fs.length) cf]) 130∧V.ownsRow B 100 3 (.slice p (D++(Zd l r 2 fuel).fs.map (Xk 3)++Jm s.data ((Zd l r 2 fuel).es.take i)).length c) (D++(Zd l r 2 fuel).fs.map (Xk 3)++Jm s.data ((Zd l r 2 fuel).es.take i)).length ((D++(Zd l r 2 fuel).fs.map (Xk 3)++Jm s.data ((Zd l r 2 fuel).es.take i)).flatMap dmc)∧V.ownsRow B 123 3 (.slice pe (Zd l r 2 fuel).es.length ce) (Zd l r 2 fuel).es.length ((Zd l r 2 fuel).es.flatMap Vt)∧V.ownsRow w.heap.size 164 3 (.slice po (mapM s.data ((Zd l r 2 fuel).es.take i)).length co) (mapM s.data ((Zd l r 2 fuel).es.take i)).length ((mapM s.data ((Zd l r 2 fuel).es.take i)).flatMap Hs)∧Maps3 B ra rb rc kd kr km V∧ImgR Bi b pi ni ci l V∧i≤(Zd l r 2 fuel).es.length) ⟨0,_,_,none,0,rfl,rfl,n9,hO,k2,g9,j3,i7,World.ownsRow_nil _ _ _ _,hM,p3,Nat.zero_le _⟩ ?_
 rintro _ _ u5 ⟨i,p,c,po,co,rfl,rfl,b8,c8,c2,b6,ho,a9,f7,hM,hI,hi⟩ v2 h6 x0
 have u0:=Cv s.data (Zd l r 2 fuel).es i
 have t2:=Sz s.data (Zd l r 2 fuel).es i
 have t9:=Gw l r 2 fuel hfu
 refine xid 6 ((i:Int)<(↑((Zd l r 2 fuel).es.length):Int)) (fun s3=>?_) (fun s3=>?_)
 ·refine xx 6 _ ((Zd l r 2 fuel).es.length) i 3 (Sts.cell (f:=Vt) (Zh a9) Zy Zj (k:=i) (i:=0) (by omega) rfl).1 ?_
  refine xlv 0 (Sts.rp (k:=i) (Zh a9) Zy Zj (by omega) (by decide)) ?_
  refine xa 0 [V0 0,.string ⟨#[]⟩,V0 0] 123 fun v5 w4 a1=>?_
  have h7:=a1.ge0 b8
  have b5:=Zx a9 a1
  refine xsv 0 a1.blk [V0 (((Zd l r 2 fuel).es.getD i Zj).1),.string ⟨(((Zd l r 2 fuel).es.getD i Zj).2.1).toArray⟩,V0 (((Zd l r 2 fuel).es.getD i Zj).2.2)] fun v3 a4 m8=>?_
  refine xb 5 1 m8 ?_
  refine xr 0 (args:=#[.string ⟨(((Zd l r 2 fuel).es.getD i Zj).2.1).toArray⟩]) (Pn ((Zd l r 2 fuel).es.getD i Zj).2.1 _ (Yq _ _ _ _ i (by omega))) fun a2 a0=>?_
  refine xg 15 [43,44] ((Xt Vn ((Zd l r 2 fuel).es.getD i Zj).2.1)==(0:Int)) (fun e1=>?_) (fun e1=>?_)
  ·have e1:=eq_of_beq e1
   have a7:=(a4.blkT (c2.below a1.below) a1.blk (by decide)).below a0
   refine xb 5 5 a7 ?_
   refine xid 4 ((↑(Mb ((Zd l r 2 fuel).es.getD i Zj).2.1):Int)≥s.data) (fun p1=>?_) (fun p1=>?_)
   ·have b3:(Vj s.data ((Zd l r 2 fuel).es.getD i Zj).2.1)=2:=Ua (by omega) (by omega)
    have a8:(Vj s.data ((Zd l r 2 fuel).es.getD i Zj).2.1)≠0:=by rw[b3];decide
    refine xv1 5 11 (show(V0 2:Value)=V0 (Vj s.data ((Zd l r 2 fuel).es.getD i Zj).2.1) from(congrArg V0 b3.symm)) ?_
    refine xd 0 (.t B [114,100]) ?_
    have i3:=(m8.below a0).below (Za a2)
    refine xbt (.e [0,1,2,3] 4) 2 B [114,100] i3 ?_
    have o1:=Zb (Zb (a4.own2 (Zb ho a1.below) a1.blk (by decide)) a0) (Za a2)
    have q4:=(((hM.below a1.below).updBlk a4 a1.blk).below a0).below (Za a2)
    have e5:=a7.below (Za a2)
    have g3:=blB (blB (a4.below (blB b8 hBw a1.below) (Nat.le_trans hBw h7)) hBw a0) hBw (Za a2)
    refine yc (.o [5] 6) (args:=#[P0 bx,V0 3,V0 (((Zd l r 2 fuel).es.getD i Zj).2.2),V0 (Vj s.data ((Zd l r 2 fuel).es.getD i Zj).2.1)]) (.t B [114,100]) (Xy B bx _ _ (D++(Zd l r 2 fuel).fs.map (Xk 3)++Jm s.data ((Zd l r 2 fuel).es.take i)) ra rb rc _ _ _ _ _ _ _ _ _ _ _ _ _ _ _ _ _ _ _ 3 (((Zd l r 2 fuel).es.getD i Zj).2.2) (Vj s.data ((Zd l r 2 fuel).es.getD i Zj).2.1) _ (by first|assumption|decide|omega) e5 o1 q4 hBb (Nat.le_trans hBw g3.size) (by first|omega|(simp;omega))) ?_
    rintro _ u9 ⟨rfl,pa,ca,j6,d4,h5,h3,hM⟩
    refine⟨(Yh j6 d4),?_⟩
    refine xwm (.r [7] 7) ((i:Int)+1) (↑(i+1):Int) ?_
    have m2:=Zn (Zb (Zb (a4.own2 (Zb f7 a1.below) a1.blk (by decide)) a0) (Za a2)) d4 (by decide)
    refine xv1 2 6 (show(.slice po ((mapM s.data ((Zd l r 2 fuel).es.take i)).length) co:Value)=.slice po ((mapM s.data ((Zd l r 2 fuel).es.take (i+1))).length) co from by rw[Ki (by omega) a8]) ?_
    have b9:=h5
    have c0:=h3
    have c7:=m2
    rw[←Uy _ (by omega) a8] at b9 c0
    rw[←Ki (by omega) a8] at c7
    have j2:=g3.trans j6
    have q7:=(((Ze.upd_new (c8.trans (Ze.of_below a1.below)) a4 h7).trans (Ze.of_below a0)).trans (Ze.of_below (Za a2))).trans d4
    have d3:=(((a4.blkT (b6.below a1.below) a1.blk (by decide)).below a0).below (Za a2)).only d4 (by decide)
    have i1:=Zn (Zb (Zb (a4.own3 (Zb a9 a1.below) b5) a0) (Za a2)) d4 (by decide)
    have n0:=((((hI.below a1.below).only (Ze.of_upd (T:=[123]) a4 a1.blk (by decide)) (by decide)).below a0).below (Za a2)).only d4 (by decide)
    exact ze 0 (h6 _ _ _ ⟨i+1,_,_,_,_,rfl,rfl,j2,q7,b9,d3,c0,i1,c7,hM,n0,by omega⟩ (by omega))
   have a8:(Vj s.data ((Zd l r 2 fuel).es.getD i Zj).2.1)=0:=Pf (by omega) (by omega)
   have s4:Xt Vn ((Zd l r 2 fuel).es.getD i Zj).2.1=0:=by omega
   refine xv1 3 11 (show(V0 (Xt Vn ((Zd l r 2 fuel).es.getD i Zj).2.1):Value)=V0 0 from(congrArg V0 s4)) ?_
   refine xd 0 (.t B [114,100]) ?_
   have g5:=(m8.below a0).below (Za a2)
   refine xbt (.e [0,1,2,3] 4) 2 B [114,100] g5 ?_
   refine xr (.o [5] 6) (args:=#[P0 bx,V0 3,V0 (((Zd l r 2 fuel).es.getD i Zj).2.2),V0 0]) (Ud bx 3 (((Zd l r 2 fuel).es.getD i Zj).2.2) _) fun v9 b1=>?_
   have m3:=g5.below b1
   refine xb (.r [7] 6) 0 m3 ?_
   refine xbs 3 1 [V0 (((Zd l r 2 fuel).es.getD i Zj).1),V0 (↑(Mb ((Zd l r 2 fuel).es.getD i Zj).2.1):Int),V0 (↑(Ef ((Zd l r 2 fuel).es.getD i Zj).2.1):Int)] 164 fun w0 v7 d7=>?_
   have h1:=blB (blB (blB (a4.below (blB b8 hBw a1.below) (Nat.le_trans hBw h7)) hBw a0) hBw (Za a2)) hBw b1
   have w6:=d7.ge0 h1
   have g1:=Zb (Zb (Zb (a4.own2 (Zb f7 a1.below) a1.blk (by decide)) a0) (Za a2)) b1
   have m9:=Zx g1 d7
   have a5:=Zb g1 d7.below
   have g0:=blB h1 hBw d7.below
   refine xbi 0 fun _ _ _ _ zJ zQ zo zx zy zK=>Zw (m:=1) (news:=[V0 (((Zd l r 2 fuel).es.getD i Zj).1),V0 (↑(Mb ((Zd l r 2 fuel).es.getD i Zj).2.1):Int),V0 (↑(Ef ((Zd l r 2 fuel).es.getD i Zj).2.1):Int)]) (.agg #[V0 0,V0 0,V0 0]) 3 24 ((mapM s.data ((Zd l r 2 fuel).es.take (i+1))).length) (((mapM s.data ((Zd l r 2 fuel).es.take (i+1))).flatMap Hs)) zo Tryz.underlying59 (by kernel_rfl) rfl (by decide) zx a5 zy (d7.blk.sl 1 1 (by decide) (by decide)) rfl (by simp[Value.oneCell']) (by unfold maxLen;omega) (by omega) (Nat.le_trans s6 g0.size) (by rw[(Ls (by omega) a8).2]) (by rw[(Ls (by omega) a8).1];rfl) fun t3 u2 v4 t8 c3 o7=>?_
   refine zK _ _ ?_
   refine xwm 5 ((i:Int)+1) (↑(i+1):Int) ?_
   have d9:=(((a7.below (Za a2)).below b1).below d7.below).grown c3 a5 (by decide)
   have o5:=Zf (Zb (Zb (Zb (Zb (a4.own2 (Zb ho a1.below) a1.blk (by decide)) a0) (Za a2)) b1) d7.below) c3 a5 (by decide)
   have b9:=d9
   have c0:=o5
   have c7:=t8
   rw[←Dk (by omega) a8] at b9 c0
   have l3:=g0.trans (o7.mono hBw)
   have s2:=(Ze.grown_new (((((Ze.upd_new (c8.trans (Ze.of_below a1.below)) a4 h7).trans (Ze.of_below a0)).trans (Ze.of_below (Za a2))).trans (Ze.of_below b1)).trans (Ze.of_below d7.below)) c3 a5)
   have d5:=(((((a4.blkT (b6.below a1.below) a1.blk (by decide)).below a0).below (Za a2)).below b1).below d7.below).grown c3 a5 (by decide)
   have h9:=Zf (Zb (Zb (Zb (Zb (a4.own3 (Zb a9 a1.below) b5) a0) (Za a2)) b1) d7.below) c3 a5 (by decide)
   have o4:=((((((hM.below a1.below).updBlk a4 a1.blk).below a0).below (Za a2)).below b1).below d7.below).grown c3 a5
   have p6:=((((((hI.below a1.below).only (Ze.of_upd (T:=[123]) a4 a1.blk (by decide)) (by decide)).below a0).below (Za a2)).below b1).below d7.below).only (Ze.of_grown (T:=[164]) c3 a5 (by decide)) (by decide)
   exact ze 2 (h6 _ _ _ ⟨i+1,_,_,_,_,rfl,rfl,l3,s2,b9,d5,c0,h9,c7,o4,p6,by omega⟩ (by omega))
  have e1:=Xl e1
  have b3:(Vj s.data ((Zd l r 2 fuel).es.getD i Zj).2.1)=Xt Vn ((Zd l r 2 fuel).es.getD i Zj).2.1:=Hl (by omega)
  have a8:(Vj s.data ((Zd l r 2 fuel).es.getD i Zj).2.1)≠0:=by omega
  refine xv1 14 11 (show(V0 (Xt Vn ((Zd l r 2 fuel).es.getD i Zj).2.1):Value)=V0 (Vj s.data ((Zd l r 2 fuel).es.getD i Zj).2.1) from(congrArg V0 b3.symm)) ?_
  refine xd 0 (.t B [114,100]) ?_
  have m4:=(m8.below a0).below (Za a2)
  refine xbt (.e [0,1,2,3] 4) 2 B [114,100] m4 ?_
  have n1:=Zb (Zb (a4.own2 (Zb ho a1.below) a1.blk (by decide)) a0) (Za a2)
  have o6:=(((hM.below a1.below).updBlk a4 a1.blk).below a0).below (Za a2)
  have e0:=((a4.blkT (c2.below a1.below) a1.blk (by decide)).below a0).below (Za a2)
  have g4:=blB (blB (a4.below (blB b8 hBw a1.below) (Nat.le_trans hBw h7)) hBw a0) hBw (Za a2)
  refine yc (.o [5] 6) (args:=#[P0 bx,V0 3,V0 (((Zd l r 2 fuel).es.getD i Zj).2.2),V0 (Vj s.data ((Zd l r 2 fuel).es.getD i Zj).2.1)]) (.t B [114,100]) (Xy B bx _ _ (D++(Zd l r 2 fuel).fs.map (Xk 3)++Jm s.data ((Zd l r 2 fuel).es.take i)) ra rb rc _ _ _ _ _ _ _ _ _ _ _ _ _ _ _ _ _ _ _ 3 (((Zd l r 2 fuel).es.getD i Zj).2.2) (Vj s.data ((Zd l r 2 fuel).es.getD i Zj).2.1) _ (by first|assumption|decide|omega) e0 n1 o6 hBb (Nat.le_trans hBw g4.size) (by first|omega|(simp;omega))) ?_
  rintro _ u6 ⟨rfl,pa,ca,k7,d2,h5,h3,hM⟩
  refine⟨(Yh k7 d2),?_⟩
  refine xwm (.r [7] 7) ((i:Int)+1) (↑(i+1):Int) ?_
  have l4:=Zn (Zb (Zb (a4.own2 (Zb f7 a1.below) a1.blk (by decide)) a0) (Za a2)) d2 (by decide)
  refine xv1 2 6 (show(.slice po ((mapM s.data ((Zd l r 2 fuel).es.take i)).length) co:Value)=.slice po ((mapM s.data ((Zd l r 2 fuel).es.take (i+1))).length) co from by rw[Ki (by omega) a8]) ?_
  have b9:=h5
  have c0:=h3
  have c7:=l4
  rw[←Uy _ (by omega) a8] at b9 c0
  rw[←Ki (by omega) a8] at c7
  have l5:=g4.trans k7
  have n8:=(((Ze.upd_new (c8.trans (Ze.of_below a1.below)) a4 h7).trans (Ze.of_below a0)).trans (Ze.of_below (Za a2))).trans d2
  have c9:=(((a4.blkT (b6.below a1.below) a1.blk (by decide)).below a0).below (Za a2)).only d2 (by decide)
  have h2:=Zn (Zb (Zb (a4.own3 (Zb a9 a1.below) b5) a0) (Za a2)) d2 (by decide)
  have l8:=((((hI.below a1.below).only (Ze.of_upd (T:=[123]) a4 a1.blk (by decide)) (by decide)).below a0).below (Za a2)).only d2 (by decide)
  exact ze 0 (h6 _ _ _ ⟨i+1,_,_,_,_,rfl,rfl,l5,n8,b9,c9,c0,h2,c7,hM,l8,by omega⟩ (by omega))
 refine xe 12 (.slice po ((mapM s.data ((Zd l r 2 fuel).es.take i)).length) co) ?_
 obtain rfl:i=(Zd l r 2 fuel).es.length:=by omega
 have h8:=c2
 have i9:=ho
 have k1:=f7
 rw[List.take_of_length_le (Nat.le_refl _)] at k1
 rw[List.take_of_length_le (Nat.le_refl _),List.append_assoc] at h8 i9
 rw[List.take_of_length_le (Nat.le_refl _)]
 exact⟨_,_,rfl,k1,_,_,b8,c8,h8,i9,hM⟩
theorem Yp(l:Bl)(root tree fuel:Int)(hf:fuel≤1000):(Zd l root tree fuel).fs.length+(Zd l root tree fuel).es.length≤18001:=by
 have h1:=Uc l tree fuel 17 [] root 0 281474976710656 ws0 rfl
 have h2:=Ui l root tree fuel
 change (Zd l root tree fuel).fs.length+(Zd l root tree fuel).es.length+18*0≤0+0+18*(Zd l root tree fuel).looked+(if(Zd l root tree fuel).dry=true then 1 else 0) at h1
 have h5:(if(Zd l root tree fuel).dry=true then 1 else 0)≤1:=by split<;>omega
 omega
theorem devG_len(l:Bl)(data fuel r:Int)(hf:fuel≤1000):(Zak l data fuel r).length≤18001:=by
 have h1:=Yp l r 2 fuel hf
 have h2:=Zcb data (Zd l r 2 fuel).es
 unfold Zak
 rw[List.length_append,List.length_map];omega
theorem Bb(l:Bl)(data fuel:Int)(hf:fuel≤1000):∀ (T:List Ent) (seen:List Int),(Gx l data fuel T seen).length≤18001*T.length
 | [],_=>Nat.le_refl _
 | x::T,seen=>by
  have ih:=Bb l data fuel hf T (Dx seen x)
  have h1:(Lj l data fuel seen x).length≤18001:=by
   have:=devG_len l data fuel (Zo x.2.1:Nat) hf
   unfold Lj
   repeat' split
   ·simp
   ·exact this
   ·simp
  show(Lj l data fuel seen x++Gx l data fuel T (Dx seen x)).length≤_
  rw[List.length_append,List.length_cons];omega
theorem Sj{es:List Ent}{i:Nat}(D:List Dg)(hi:i<es.length)(h:Wi (es.getD i Zj)≠0):D++Yy (es.take (i+1))=D++Yy (es.take i)++[((2:Int),(es.getD i Zj).2.2,Wi (es.getD i Zj))]:=by
 rw[Ds hi,Zg3 h,List.append_assoc]
theorem Av{es:List Ent}{i:Nat}(D:List Dg)(hi:i<es.length)(h:16777215<(es.getD i Zj).1):D++Yy (es.take (i+1))=D++Yy (es.take i)++[((2:Int),(es.getD i Zj).2.2,(9:Int))]:=by
 have e:Wi (es.getD i Zj)=9:=if_pos h
 rw[Sj D hi (by rw[e];decide),e]
theorem Iu{es:List Ent}{i:Nat}(D:List Dg)(hi:i<es.length)(h:¬ 16777215<(es.getD i Zj).1)(h2:Xt Ky (es.getD i Zj).2.1≠0):D++Yy (es.take (i+1))=D++Yy (es.take i)++[((2:Int),(es.getD i Zj).2.2,Xt Ky (es.getD i Zj).2.1)]:=by
 have e:Wi (es.getD i Zj)=Xt Ky (es.getD i Zj).2.1:=if_neg h
 rw[Sj D hi (by rw[e];exact h2),e]
theorem Tg{es:List Ent}{i:Nat}(hi:i<es.length)(h:¬ 16777215<(es.getD i Zj).1)(h2:Xt Ky (es.getD i Zj).2.1=0):Yy (es.take (i+1))=Yy (es.take i):=by
 have e:Wi (es.getD i Zj)=Xt Ky (es.getD i Zj).2.1:=if_neg h
 rw[Ds hi,Zbm (e.trans h2),List.append_nil]
theorem Fv{es:List Ent}{i:Nat}(hi:i<es.length)(h:16777215<(es.getD i Zj).1):Oz (es.take (i+1))=Oz (es.take i):=by
 have e:Wi (es.getD i Zj)=9:=if_pos h
 rw[Cz hi,Iv (by rw[e];decide),List.append_nil]
theorem Fe{es:List Ent}{i:Nat}(hi:i<es.length)(h:¬ 16777215<(es.getD i Zj).1)(h2:Xt Ky (es.getD i Zj).2.1≠0):Oz (es.take (i+1))=Oz (es.take i):=by
 have e:Wi (es.getD i Zj)=Xt Ky (es.getD i Zj).2.1:=if_neg h
 rw[Cz hi,Iv (by rw[e];exact h2),List.append_nil]
theorem Zcu{es:List Ent}{i:Nat}(hi:i<es.length)(h:¬ 16777215<(es.getD i Zj).1)(h2:Xt Ky (es.getD i Zj).2.1=0):Oz (es.take (i+1))=Oz (es.take i)++[((es.getD i Zj).1,Hc (es.getD i Zj))]:=by
 have e:Wi (es.getD i Zj)=Xt Ky (es.getD i Zj).2.1:=if_neg h
 rw[Cz hi,Zbl (e.trans h2)]
theorem Dq(es:List Ent)(i:Nat):(Yy (es.take i)).length≤es.length:=by
 have h1:=Lw (es.take i);have h2:=List.length_take_le' i es;omega
theorem Rj{es:List Ent}{i:Nat}(hi:i<es.length)(h:Xo (es.getD i Zj).2.1≠0):Nn (es.take (i+1))=Nn (es.take i):=by
 rw[Fh hi,Zdz h,List.append_nil]
theorem Hm{es:List Ent}{i:Nat}(hi:i<es.length)(h:Xo (es.getD i Zj).2.1=0):Nn (es.take (i+1))=Nn (es.take i)++[((es.getD i Zj).1,V0 ((Zo (es.getD i Zj).2.1:Nat):Int))]:=by
 rw[Fh hi,Iq h]
theorem Zck{es:List Ent}{i:Nat}(hi:i<es.length)(h:Xo (es.getD i Zj).2.1≠0):Qm (es.take (i+1))=Qm (es.take i):=by
 rw[List.take_succ_eq_append_getElem hi,Uw,show es[i]=es.getD i Zj from by simp[List.getD,hi]]
 exact if_neg fun q=>h q.1
theorem Zbe{es:List Ent}{i:Nat}(hi:i<es.length)(h:((Zo (es.getD i Zj).2.1:Nat):Int)∈Qm (es.take i)):Qm (es.take (i+1))=Qm (es.take i):=by
 rw[List.take_succ_eq_append_getElem hi,Uw,show es[i]=es.getD i Zj from by simp[List.getD,hi]]
 exact if_neg fun q=>q.2 h
theorem Bd{es:List Ent}{i:Nat}(hi:i<es.length)(h0:Xo (es.getD i Zj).2.1=0)(h:((Zo (es.getD i Zj).2.1:Nat):Int)∉Qm (es.take i)):Qm (es.take (i+1))=Qm (es.take i)++[((Zo (es.getD i Zj).2.1:Nat):Int)]:=by
 rw[List.take_succ_eq_append_getElem hi,Uw,show es[i]=es.getD i Zj from by simp[List.getD,hi]]
 exact if_pos ⟨h0,h⟩
theorem Zaa{l:Bl}{data fuel:Int}{T:List Ent}{i:Nat}{G X:List Dg}(hi:i<T.length)(h:G++Gx l data fuel (T.drop i) (Qm (T.take i))=X)(h0:Xo (T.getD i Zj).2.1≠0):(G++[((3:Int),(T.getD i Zj).2.2,Xo (T.getD i Zj).2.1)])++Gx l data fuel (T.drop (i+1)) (Qm (T.take (i+1)))=X:=by
 rw[←h,Dt hi,←List.append_assoc,show Lj l data fuel (Qm (T.take i)) (T.getD i Zj)=[((3:Int),(T.getD i Zj).2.2,Xo (T.getD i Zj).2.1)] from if_neg h0]
theorem Zag{l:Bl}{data fuel:Int}{T:List Ent}{i:Nat}{G X:List Dg}(hi:i<T.length)(h:G++Gx l data fuel (T.drop i) (Qm (T.take i))=X)(h0:Xo (T.getD i Zj).2.1=0)(h1:((Zo (T.getD i Zj).2.1:Nat):Int)∈Qm (T.take i)):G++Gx l data fuel (T.drop (i+1)) (Qm (T.take (i+1)))=X:=by
 rw[←h,Dt hi,show Lj l data fuel (Qm (T.take i)) (T.getD i Zj)=[] from(if_pos h0).trans (if_pos h1)];rfl
theorem Cn{l:Bl}{data fuel:Int}{T:List Ent}{i:Nat}{G X:List Dg}(hi:i<T.length)(h:G++Gx l data fuel (T.drop i) (Qm (T.take i))=X)(h0:Xo (T.getD i Zj).2.1=0)(h1:((Zo (T.getD i Zj).2.1:Nat):Int)∉Qm (T.take i)):(G++Zak l data fuel (Zo (T.getD i Zj).2.1:Nat))++Gx l data fuel (T.drop (i+1)) (Qm (T.take (i+1)))=X:=by
 rw[←h,Dt hi,←List.append_assoc,show Lj l data fuel (Qm (T.take i)) (T.getD i Zj)=Zak l data fuel (Zo (T.getD i Zj).2.1:Nat) from(if_pos h0).trans (if_neg h1)]
theorem Ej(B bx:Nat)(p:O0)(c:Nat)(D:List Dg)(ra rb rc:Nat)(kr km:List (Int×Value))(pi:O0)(ni ci Bi b:Nat)(l:Bl)(s:Sup)(fuel:Int)(w:World)(hk:Blk w bx [.slice p D.length c,P0 b,V0 s.tx,V0 s.time,V0 s.unit,V0 s.data,V0 s.blocks,V0 s.top,V0 s.details,V0 s.dslots,V0 s.dover,V0 s.mindex,V0 s.mover,V0 fuel,.map (some ra),.map (some rb),.map (some rc)] 114)(ho:w.ownsRow B 100 3 (.slice p D.length c) D.length (D.flatMap dmc))(hM:Maps3 B ra rb rc [] kr km w)(hI:ImgR Bi b pi ni ci l w)(hfu:fuel≤1000)(hg:∀ W,Below B w W→Sm W)(hBb:B≤bx)(hBw:B≤w.heap.size)(hl:D.length≤400000000) :
 C0 49 #[P0 bx] w ((fun e w'=>(∃ u,e=.returned u)∧Cx B bx [P0 b,V0 s.tx,V0 s.time,V0 s.unit,V0 s.data,V0 s.blocks,V0 s.top,V0 s.details,V0 s.dslots,V0 s.dover,V0 s.mindex,V0 s.mover,V0 fuel,.map (some ra),.map (some rb),.map (some rc)] (D++(Zd l s.details 3 fuel).fs.map (Xk 2)++Yy (Zd l s.details 3 fuel).es) ra rb rc (Oz (Zd l s.details 3 fuel).es) kr km w w')):=by
 have s8:=Yp l s.details 3 fuel hfu
 refine zin 65 Tryz.func49 ?_
 refine xd 1 (.t B [130]) ?_
 have e1:=hk.below (Za w)
 refine xbt (.e [0,1,2] 3) 1 B [130] e1 ?_
 refine xbt (.e [4,5,6,7] 8) 8 B [130] e1 ?_
 refine xbt (.e [9,10,11] 12) 13 B [130] e1 ?_
 refine xm2 0 13 14 ?_ ?_
 ·have k2:=hI.below (Za w)
  refine yc 0 (args:=#[P0 b,V0 s.details,V0 3,V0 fuel]) (.t B [130]) (Kx Bi b pi ni ci l s.details 3 fuel _ hfu k2) ?_
  rintro _ W1 ⟨pe,pb,pf,ce,cb,cf,fv,rfl,h1,a7,h5,q1⟩
  have r7:=(blB (Below.refl B w) hBw (Za w)).size
  refine⟨(SF.of_below _ h1),?_⟩
  have j5:=Zg a7 r7
  have l0:=Zg h5 r7
  replace a7:=Zg j5 hBw
  replace h5:=Zg l0 hBw
  refine xa (.o [] 14) [S0,S0,V0 0,V0 0,S0] 130 fun b2 W2 n2=>?_
  have g2:=n2.ge0 (blB (blB (Below.refl B w) hBw (Za w)) hBw h1)
  refine ysv (.o [] 15) n2.blk [.slice pe ((Zd l s.details 3 fuel).es.length) ce,.slice pb ((Zd l s.details 3 fuel).bs.length) cb,V0 ((Zd l s.details 3 fuel).deep),V0 (↑(Zd l s.details 3 fuel).looked:Int),.slice pf ((Zd l s.details 3 fuel).fs.length) cf] (.t B [130]) fun W3 u3 k3=>⟨(Zp u3 n2.blk (Nat.le_trans hBw g2) (by decide)),?_⟩
  refine xd 3 (.t B [114,100]) ?_
  have j6:=k3.below (Za W3)
  refine xbt (.e [0,1,2,3] 4) 4 B [114,100] j6 ?_
  have o9:=Zb (u3.own2 (Zb (Zb (Zb ho (Za w)) h1) n2.below) n2.blk (by decide)) (Za W3)
  have r0:=((((hM.below (Za w)).below h1).below n2.below).updBlk u3 n2.blk).below (Za W3)
  have i7:=Zb (u3.own2 (Zb h5 n2.below) n2.blk (by decide)) (Za W3)
  have q8:=(u3.blkT ((e1.below h1).below n2.below) n2.blk (by decide)).below (Za W3)
  have l1:=((q1.below n2.below).only (Ze.of_upd (T:=[130]) u3 n2.blk (by decide)) (by decide)).below (Za W3)
  have hB:=blB (u3.below (blB (blB (blB (Below.refl B w) hBw (Za w)) hBw h1) hBw n2.below) (Nat.le_trans hBw g2)) hBw (Za W3)
  refine yc (.o [] 5) (args:=#[P0 bx,V0 2,.slice pf ((Zd l s.details 3 fuel).fs.length) cf]) (.t B [114,100]) (Qp B bx _ _ D ra rb rc _ _ _ _ _ _ _ _ _ _ _ _ _ _ _ _ _ _ _ 2 pf cf (Zd l s.details 3 fuel).fs fv _ q8 o9 r0 i7 l1 (He _ _ _ _) (fun W hb=>hg W (Below.trans hB hb)) hBb (Nat.le_trans hBw hB.size) (by first|omega|(simp;omega))) ?_
  rintro _ W4 ⟨⟨u4,rfl⟩,p4,c4,r6,k0,s1,s7,hM⟩
  refine⟨(Yh r6 k0),?_⟩
  have l4:=j6.only k0 (by decide)
  refine xb 5 0 l4 ?_
  have k6:=s1
  have j8:=s7
  rw[(by simp[Yy]:D++(Zd l s.details 3 fuel).fs.map (Xk 2)=D++(Zd l s.details 3 fuel).fs.map (Xk 2)++Yy ((Zd l s.details 3 fuel).es.take 0))] at k6 j8
  have j9:=Zn (Zb (u3.own2 (Zb a7 n2.below) n2.blk (by decide)) (Za W3)) k0 (by decide)
  have r1:=((((k2.below h1).below n2.below).only (Ze.of_upd (T:=[130]) u3 n2.blk (by decide)) (by decide)).below (Za W3)).only k0 (by decide)
  have q5:=hB.trans r6
  have hO:=((Ze.upd_new (((show Ze [114,100] w _ from(Ze.of_below (Za w))).trans (Ze.of_below h1)).trans (Ze.of_below n2.below)) u3 g2).trans (Ze.of_below (Za W3))).trans k0
  refine zl 5 65 (fun zm o1 V=>∃ (i:Nat) (p:O0) (c:Nat),o1=[(0,P0 bx),(28,.slice pe ((Zd l s.details 3 fuel).es.length) ce),(29,V0 (↑((Zd l s.details 3 fuel).es.length):Int)),(30,V0 (i:Int))]∧zm=(Zd l s.details 3 fuel).es.length-((i:Int)).toNat∧Below B w V∧Ze [114,100] w V∧Blk V bx ([.slice p ((D++(Zd l s.details 3 fuel).fs.map (Xk 2)++Yy ((Zd l s.details 3 fuel).es.take i)).length) c,P0 b,V0 s.tx,V0 s.time,V0 s.unit,V0 s.data,V0 s.blocks,V0 s.top,V0 s.details,V0 s.dslots,V0 s.dover,V0 s.mindex,V0 s.mover,V0 fuel,.map (some ra),.map (some rb),.map (some rc)]) 114∧Blk V b2 ([.slice pe ((Zd l s.details 3 fuel).es.length) ce,.slice pb ((Zd l s.details 3 fuel).bs.length) cb,V0 ((Zd l s.details 3 fuel).deep),V0 (↑(Zd l s.details 3 fuel).looked:Int),.slice pf ((Zd l s.details 3 fuel).fs.length) cf]) 130∧V.ownsRow B 100 3 (.slice p (D++(Zd l s.details 3 fuel).fs.map (Xk 2)++Yy ((Zd l s.details 3 fuel).es.take i)).length c) (D++(Zd l s.details 3 fuel).fs.map (Xk 2)++Yy ((Zd l s.details 3 fuel).es.take i)).length ((D++(Zd l s.details 3 fuel).fs.map (Xk 2)++Yy ((Zd l s.details 3 fuel).es.take i)).flatMap dmc)∧V.ownsRow B 123 3 (.slice pe (Zd l s.details 3 fuel).es.length ce) (Zd l s.details 3 fuel).es.length ((Zd l s.details 3 fuel).es.flatMap Vt)∧Maps3 B ra rb rc (Oz ((Zd l s.details 3 fuel).es.take i)) kr km V∧ImgR Bi b pi ni ci l V∧i≤(Zd l s.details 3 fuel).es.length) ⟨0,_,_,rfl,rfl,q5,hO,k6,l4,j8,j9,hM,r1,Nat.zero_le _⟩ ?_
  rintro _ _ W5 ⟨i,p,c,rfl,rfl,f3,g5,e4,d9,ho,a7,hM,hI,hi⟩ J5 p0 r5
  have t0:=Dq (Zd l s.details 3 fuel).es i
  have s9:=Yp l s.details 3 fuel hfu
  refine xid 6 ((i:Int)<(↑((Zd l s.details 3 fuel).es.length):Int)) (fun s2=>?_) (fun s2=>?_)
  ·refine xx 6 _ ((Zd l s.details 3 fuel).es.length) i 3 (Sts.cell (f:=Vt) (Zh a7) Zy Zj (k:=i) (i:=0) (by omega) rfl).1 ?_
   refine xlv 0 (Sts.rp (k:=i) (Zh a7) Zy Zj (by omega) (by decide)) ?_
   refine xa 0 [V0 0,.string ⟨#[]⟩,V0 0] 123 fun b7 W7 n7=>?_
   have g7:=n7.ge0 f3
   have c1:=Zx a7 n7
   refine xsv 0 n7.blk [V0 (((Zd l s.details 3 fuel).es.getD i Zj).1),.string ⟨(((Zd l s.details 3 fuel).es.getD i Zj).2.1).toArray⟩,V0 (((Zd l s.details 3 fuel).es.getD i Zj).2.2)] fun W8 u8 k8=>?_
   refine xb 6 0 k8 ?_
   refine xid 3 (((Zd l s.details 3 fuel).es.getD i Zj).1>(16777215:Int)) (fun s3=>?_) (fun s3=>?_)
   ·refine xd 1 (.t B [114,100]) ?_
    have p9:=k8.below (Za W8)
    refine xbt (.e [0,1,2,3] 4) 2 B [114,100] p9 ?_
    have o0:=Zb (u8.own2 (Zb ho n7.below) n7.blk (by decide)) (Za W8)
    have q2:=((hM.below n7.below).updBlk u8 n7.blk).below (Za W8)
    have g3:=(u8.blkT (e4.below n7.below) n7.blk (by decide)).below (Za W8)
    have i6:=blB (u8.below (blB f3 hBw n7.below) (Nat.le_trans hBw g7)) hBw (Za W8)
    refine yc (.o [] 5) (args:=#[P0 bx,V0 2,V0 (((Zd l s.details 3 fuel).es.getD i Zj).2.2),V0 9]) (.t B [114,100]) (Xy B bx _ _ (D++(Zd l s.details 3 fuel).fs.map (Xk 2)++Yy ((Zd l s.details 3 fuel).es.take i)) ra rb rc _ _ _ _ _ _ _ _ _ _ _ _ _ _ _ _ _ _ _ 2 (((Zd l s.details 3 fuel).es.getD i Zj).2.2) 9 _ (by first|assumption|decide|omega) g3 o0 q2 hBb (Nat.le_trans hBw i6.size) (by first|omega|(simp;omega))) ?_
    rintro _ v4 ⟨rfl,pa,ca,k5,e2,h7,h3,hM⟩
    refine⟨(Yh k5 e2),?_⟩
    refine xwm 7 ((i:Int)+1) (↑(i+1):Int) ?_
    have b4:=h7
    have b5:=h3
    rw[←Av _ (by omega) (by omega)] at b4 b5
    have o4:=i6.trans k5
    have q6:=((Ze.upd_new (g5.trans (Ze.of_below n7.below)) u8 g7).trans (Ze.of_below (Za W8))).trans e2
    have f2:=((u8.blkT (d9.below n7.below) n7.blk (by decide)).below (Za W8)).only e2 (by decide)
    have l2:=Zn (Zb (u8.own3 (Zb a7 n7.below) c1) (Za W8)) e2 (by decide)
    have p2:=(((hI.below n7.below).only (Ze.of_upd (T:=[123]) u8 n7.blk (by decide)) (by decide)).below (Za W8)).only e2 (by decide)
    exact ze 2 (p0 _ _ _ ⟨i+1,_,_,rfl,rfl,o4,q6,b4,f2,b5,l2,(by rw[Fv (by omega) (by omega)];exact hM),p2,by omega⟩ (by omega))
   refine xb 5 1 k8 ?_
   refine xr 0 (args:=#[.string ⟨(((Zd l s.details 3 fuel).es.getD i Zj).2.1).toArray⟩]) (Gk ((Zd l s.details 3 fuel).es.getD i Zj).2.1 _ (Yq _ _ _ _ i (by omega))) fun t8 a3=>?_
   refine xa 3 [V0 0,V0 0,V0 0,V0 0] 202 fun u2 t3 a5=>?_
   have m2:=blB (u8.below (blB f3 hBw n7.below) (Nat.le_trans hBw g7)) hBw a3
   have p5:=a5.ge0 m2
   refine xsv 0 a5.blk [V0 (↑(Xu ((Zd l s.details 3 fuel).es.getD i Zj).2.1 0):Int),V0 (↑(Xu ((Zd l s.details 3 fuel).es.getD i Zj).2.1 1):Int),V0 (↑(Xu ((Zd l s.details 3 fuel).es.getD i Zj).2.1 2):Int),V0 (↑(Xu ((Zd l s.details 3 fuel).es.getD i Zj).2.1 3):Int)] fun c7 d3 s5=>?_
   refine xd 4 (.t B [114,100]) ?_
   have m3:=(d3.blkT ((k8.below a3).below a5.below) a5.blk (by decide)).below (Za c7)
   refine xbt (.e [0,1,2,3] 4) 2 B [114,100] m3 ?_
   have k9:=Zb (d3.own2 (Zb (Zb (u8.own2 (Zb ho n7.below) n7.blk (by decide)) a3) a5.below) a5.blk (by decide)) (Za c7)
   have i8:=(((((hM.below n7.below).updBlk u8 n7.blk).below a3).below a5.below).updBlk d3 a5.blk).below (Za c7)
   have c2:=(d3.blkT (((u8.blkT (e4.below n7.below) n7.blk (by decide)).below a3).below a5.below) a5.blk (by decide)).below (Za c7)
   have h4:=blB (d3.below (blB m2 hBw a5.below) (Nat.le_trans hBw p5)) hBw (Za c7)
   refine yc (.o [5] 6) (args:=#[P0 bx,V0 2,V0 (((Zd l s.details 3 fuel).es.getD i Zj).2.2),V0 (Xt Ky ((Zd l s.details 3 fuel).es.getD i Zj).2.1)]) (.t B [114,100]) (Jo B bx _ _ (D++(Zd l s.details 3 fuel).fs.map (Xk 2)++Yy ((Zd l s.details 3 fuel).es.take i)) ra rb rc _ _ _ _ _ _ _ _ _ _ _ _ _ _ _ _ _ _ _ 2 (((Zd l s.details 3 fuel).es.getD i Zj).2.2) (Xt Ky ((Zd l s.details 3 fuel).es.getD i Zj).2.1) _ c2 k9 i8 hBb (Nat.le_trans hBw h4.size) (by first|omega|(simp;omega))) ?_
   rintro e e8 o6
   rcases o6 with ⟨e3,rfl,a1⟩|⟨e3,rfl,pa,ca,a1,d5,h7,h3,hM⟩
   ·refine⟨(SF.of_below _ a1),?_⟩
    refine xd (.r [7] 3) (.t B [4]) ?_
    have c5:=(c2.below a1).below (Za e8)
    refine xbt (.e [0,1,2] 3) 14 B [4] c5 ?_
    have q7:=(m3.below a1).below (Za e8)
    refine xbt (.e [4] 5) 0 B [4] q7 ?_
    have h9:=((s5.below (Za c7)).below a1).below (Za e8)
    refine xlvt (.e [] 6) (.t B [4]) (fun V hV=>(h9.only hV.2 (by decide)).rp) ?_
    have e0:=(i8.below a1).below (Za e8)
    have b8:=Kn.obj e0.m1
    refine ymuV (.o [] 7) (((Zd l s.details 3 fuel).es.getD i Zj).1) (Hc ((Zd l s.details 3 fuel).es.getD i Zj)) (.t B [4]) Tryz.underlying108 (Sw Tryz.underlying3) e0.m1 (Zbd (Hz _ _ _ _).2.2.2.1 (by omega)) fun u7 g4 s0=>⟨Uf b8 g4 e0.g1,?_⟩
    refine xwm 4 ((i:Int)+1) (↑(i+1):Int) ?_
    have f6:=Yv c5 b8 g4
    have o2:=Xz (Zb (Zb k9 a1) (Za e8)) b8 g4
    have hM:=e0.put1 g4 s0
    have b4:=f6
    have b5:=o2
    rw[←Tg (by omega) (by omega) e3] at b4 b5
    have p8:=g4.below (blB (blB h4 hBw a1) hBw (Za e8)) e0.g1
    have n1:=((((Ze.upd_new (((Ze.upd_new (g5.trans (Ze.of_below n7.below)) u8 g7).trans (Ze.of_below a3)).trans (Ze.of_below a5.below)) d3 p5).trans (Ze.of_below (Za c7))).trans (Ze.of_below a1)).trans (Ze.of_below (Za e8))).trans (Xj b8 g4)
    have g0:=Yv ((((d3.blkT (((u8.blkT (d9.below n7.below) n7.blk (by decide)).below a3).below a5.below) a5.blk (by decide)).below (Za c7)).below a1).below (Za e8)) b8 g4
    have m4:=Xz (Zb (Zb (Zb (d3.own2 (Zb (Zb (u8.own3 (Zb a7 n7.below) c1) a3) a5.below) a5.blk (by decide)) (Za c7)) a1) (Za e8)) b8 g4
    have q4:=((((((((hI.below n7.below).only (Ze.of_upd (T:=[123]) u8 n7.blk (by decide)) (by decide)).below a3).below a5.below).only (Ze.of_upd (T:=[202]) d3 a5.blk (by decide)) (by decide)).below (Za c7)).below a1).below (Za e8)).only (Xj (T:=[]) b8 g4) (by decide)
    exact ze 2 (p0 _ _ _ ⟨i+1,_,_,rfl,rfl,p8,n1,b4,g0,b5,m4,(by rw[Zcu (by omega) (by omega) e3];exact hM),q4,by omega⟩ (by omega))
   refine⟨(Yh a1 d5),?_⟩
   refine xwm (.r [7] 7) ((i:Int)+1) (↑(i+1):Int) ?_
   have b4:=h7
   have b5:=h3
   rw[←Iu _ (by omega) (by omega) e3] at b4 b5
   have n4:=h4.trans a1
   have o8:=((Ze.upd_new (((Ze.upd_new (g5.trans (Ze.of_below n7.below)) u8 g7).trans (Ze.of_below a3)).trans (Ze.of_below a5.below)) d3 p5).trans (Ze.of_below (Za c7))).trans d5
   have f4:=((d3.blkT (((u8.blkT (d9.below n7.below) n7.blk (by decide)).below a3).below a5.below) a5.blk (by decide)).below (Za c7)).only d5 (by decide)
   have l7:=Zn (Zb (d3.own2 (Zb (Zb (u8.own3 (Zb a7 n7.below) c1) a3) a5.below) a5.blk (by decide)) (Za c7)) d5 (by decide)
   have q3:=((((((hI.below n7.below).only (Ze.of_upd (T:=[123]) u8 n7.blk (by decide)) (by decide)).below a3).below a5.below).only (Ze.of_upd (T:=[202]) d3 a5.blk (by decide)) (by decide)).below (Za c7)).only d5 (by decide)
   exact ze 2 (p0 _ _ _ ⟨i+1,_,_,rfl,rfl,n4,o8,b4,f4,b5,l7,(by rw[Fe (by omega) (by omega) e3];exact hM),q3,by omega⟩ (by omega))
  refine xe 4 (.tuple #[]) ?_
  obtain rfl:i=(Zd l s.details 3 fuel).es.length:=by omega
  have i0:=e4
  have j4:=ho
  have l6:=hM
  rw[List.take_of_length_le (Nat.le_refl _)] at i0 j4 l6
  exact⟨⟨_,rfl⟩,_,_,f3,g5,i0,j4,l6⟩
 refine xa 0 [S0,S0,V0 0,V0 0,S0] 130 fun s4 t2 f7=>?_
 have k4:=(hI.below (Za w)).below f7.below
 refine yc (.o [] 13) (args:=#[P0 b,V0 s.details,V0 3,V0 fuel]) (.t B [130]) (Kx Bi b pi ni ci l s.details 3 fuel _ hfu k4) ?_
 rintro _ u0 ⟨pe,pb,pf,ce,cb,cf,fv,rfl,b3,a7,h5,q1⟩
 have j0:=(blB (blB (Below.refl B w) hBw (Za w)) hBw f7.below).size
 refine⟨(SF.of_below _ b3),?_⟩
 have l3:=Zg a7 j0
 have i5:=Zg h5 j0
 replace a7:=Zg l3 hBw
 replace h5:=Zg i5 hBw
 have f5:=f7.blk.below b3
 have o3:=f7.ge0 (blB (Below.refl B w) hBw (Za w))
 refine ysv (.o [] 15) f5 [.slice pe ((Zd l s.details 3 fuel).es.length) ce,.slice pb ((Zd l s.details 3 fuel).bs.length) cb,V0 ((Zd l s.details 3 fuel).deep),V0 (↑(Zd l s.details 3 fuel).looked:Int),.slice pf ((Zd l s.details 3 fuel).fs.length) cf] (.t B [130]) fun f1 e9 r9=>⟨(Zp e9 f5 (Nat.le_trans hBw o3) (by decide)),?_⟩
 refine xd 3 (.t B [114,100]) ?_
 have g8:=r9.below (Za f1)
 refine xbt (.e [0,1,2,3] 4) 4 B [114,100] g8 ?_
 have p6:=Zb (e9.own2 (Zb (Zb (Zb ho (Za w)) f7.below) b3) f5 (by decide)) (Za f1)
 have n0:=((((hM.below (Za w)).below f7.below).below b3).updBlk e9 f5).below (Za f1)
 have m0:=Zb (e9.own2 h5 f5 (by decide)) (Za f1)
 have q0:=(e9.blkT ((e1.below f7.below).below b3) f5 (by decide)).below (Za f1)
 have k7:=(q1.only (Ze.of_upd (T:=[130]) e9 f5 (by decide)) (by decide)).below (Za f1)
 have hB:=blB (e9.below (blB (blB (blB (Below.refl B w) hBw (Za w)) hBw f7.below) hBw b3) (Nat.le_trans hBw o3)) hBw (Za f1)
 refine yc (.o [] 5) (args:=#[P0 bx,V0 2,.slice pf ((Zd l s.details 3 fuel).fs.length) cf]) (.t B [114,100]) (Qp B bx _ _ D ra rb rc _ _ _ _ _ _ _ _ _ _ _ _ _ _ _ _ _ _ _ 2 pf cf (Zd l s.details 3 fuel).fs fv _ q0 p6 n0 m0 k7 (He _ _ _ _) (fun W hb=>hg W (Below.trans hB hb)) hBb (Nat.le_trans hBw hB.size) (by first|omega|(simp;omega))) ?_
 rintro _ v2 ⟨⟨u6,rfl⟩,t1,v0,j7,d6,n3,p1,hM⟩
 refine⟨(Yh j7 d6),?_⟩
 have g6:=g8.only d6 (by decide)
 refine xb 5 0 g6 ?_
 have k6:=n3
 have j8:=p1
 rw[(by simp[Yy]:D++(Zd l s.details 3 fuel).fs.map (Xk 2)=D++(Zd l s.details 3 fuel).fs.map (Xk 2)++Yy ((Zd l s.details 3 fuel).es.take 0))] at k6 j8
 have i9:=Zn (Zb (e9.own2 a7 f5 (by decide)) (Za f1)) d6 (by decide)
 have o5:=(((k4.below b3).only (Ze.of_upd (T:=[130]) e9 f5 (by decide)) (by decide)).below (Za f1)).only d6 (by decide)
 have n6:=hB.trans j7
 have hO:=((Ze.upd_new (((show Ze [114,100] w _ from(Ze.of_below (Za w))).trans (Ze.of_below f7.below)).trans (Ze.of_below b3)) e9 o3).trans (Ze.of_below (Za f1))).trans d6
 refine zl 5 65 (fun zm o1 V=>∃ (i:Nat) (p:O0) (c:Nat),o1=[(0,P0 bx),(28,.slice pe ((Zd l s.details 3 fuel).es.length) ce),(29,V0 (↑((Zd l s.details 3 fuel).es.length):Int)),(30,V0 (i:Int))]∧zm=(Zd l s.details 3 fuel).es.length-((i:Int)).toNat∧Below B w V∧Ze [114,100] w V∧Blk V bx ([.slice p ((D++(Zd l s.details 3 fuel).fs.map (Xk 2)++Yy ((Zd l s.details 3 fuel).es.take i)).length) c,P0 b,V0 s.tx,V0 s.time,V0 s.unit,V0 s.data,V0 s.blocks,V0 s.top,V0 s.details,V0 s.dslots,V0 s.dover,V0 s.mindex,V0 s.mover,V0 fuel,.map (some ra),.map (some rb),.map (some rc)]) 114∧Blk V s4 ([.slice pe ((Zd l s.details 3 fuel).es.length) ce,.slice pb ((Zd l s.details 3 fuel).bs.length) cb,V0 ((Zd l s.details 3 fuel).deep),V0 (↑(Zd l s.details 3 fuel).looked:Int),.slice pf ((Zd l s.details 3 fuel).fs.length) cf]) 130∧V.ownsRow B 100 3 (.slice p (D++(Zd l s.details 3 fuel).fs.map (Xk 2)++Yy ((Zd l s.details 3 fuel).es.take i)).length c) (D++(Zd l s.details 3 fuel).fs.map (Xk 2)++Yy ((Zd l s.details 3 fuel).es.take i)).length ((D++(Zd l s.details 3 fuel).fs.map (Xk 2)++Yy ((Zd l s.details 3 fuel).es.take i)).flatMap dmc)∧V.ownsRow B 123 3 (.slice pe (Zd l s.details 3 fuel).es.length ce) (Zd l s.details 3 fuel).es.length ((Zd l s.details 3 fuel).es.flatMap Vt)∧Maps3 B ra rb rc (Oz ((Zd l s.details 3 fuel).es.take i)) kr km V∧ImgR Bi b pi ni ci l V∧i≤(Zd l s.details 3 fuel).es.length) ⟨0,_,_,rfl,rfl,n6,hO,k6,g6,j8,i9,hM,o5,Nat.zero_le _⟩ ?_
 rintro _ _ v1 ⟨i,p,c,rfl,rfl,c6,c8,c0,b0,ho,a7,hM,hI,hi⟩ t6 h6 t9
 have t0:=Dq (Zd l s.details 3 fuel).es i
 have s9:=Yp l s.details 3 fuel hfu
 refine xid 6 ((i:Int)<(↑((Zd l s.details 3 fuel).es.length):Int)) (fun r3=>?_) (fun r3=>?_)
 ·refine xx 6 _ ((Zd l s.details 3 fuel).es.length) i 3 (Sts.cell (f:=Vt) (Zh a7) Zy Zj (k:=i) (i:=0) (by omega) rfl).1 ?_
  refine xlv 0 (Sts.rp (k:=i) (Zh a7) Zy Zj (by omega) (by decide)) ?_
  refine xa 0 [V0 0,.string ⟨#[]⟩,V0 0] 123 fun u5 u9 a0=>?_
  have m6:=a0.ge0 c6
  have a9:=Zx a7 a0
  refine xsv 0 a0.blk [V0 (((Zd l s.details 3 fuel).es.getD i Zj).1),.string ⟨(((Zd l s.details 3 fuel).es.getD i Zj).2.1).toArray⟩,V0 (((Zd l s.details 3 fuel).es.getD i Zj).2.2)] fun f9 a8 m7=>?_
  refine xb 6 0 m7 ?_
  refine xid 3 (((Zd l s.details 3 fuel).es.getD i Zj).1>(16777215:Int)) (fun n8=>?_) (fun n8=>?_)
  ·refine xd 1 (.t B [114,100]) ?_
   have h8:=m7.below (Za f9)
   refine xbt (.e [0,1,2,3] 4) 2 B [114,100] h8 ?_
   have n9:=Zb (a8.own2 (Zb ho a0.below) a0.blk (by decide)) (Za f9)
   have p3:=((hM.below a0.below).updBlk a8 a0.blk).below (Za f9)
   have d8:=(a8.blkT (c0.below a0.below) a0.blk (by decide)).below (Za f9)
   have j1:=blB (a8.below (blB c6 hBw a0.below) (Nat.le_trans hBw m6)) hBw (Za f9)
   refine yc (.o [] 5) (args:=#[P0 bx,V0 2,V0 (((Zd l s.details 3 fuel).es.getD i Zj).2.2),V0 9]) (.t B [114,100]) (Xy B bx _ _ (D++(Zd l s.details 3 fuel).fs.map (Xk 2)++Yy ((Zd l s.details 3 fuel).es.take i)) ra rb rc _ _ _ _ _ _ _ _ _ _ _ _ _ _ _ _ _ _ _ 2 (((Zd l s.details 3 fuel).es.getD i Zj).2.2) 9 _ (by first|assumption|decide|omega) d8 n9 p3 hBb (Nat.le_trans hBw j1.size) (by first|omega|(simp;omega))) ?_
   rintro _ t7 ⟨rfl,pa,ca,m5,e5,h7,h3,hM⟩
   refine⟨(Yh m5 e5),?_⟩
   refine xwm 7 ((i:Int)+1) (↑(i+1):Int) ?_
   have b4:=h7
   have b5:=h3
   rw[←Av _ (by omega) (by omega)] at b4 b5
   have i4:=j1.trans m5
   have p7:=((Ze.upd_new (c8.trans (Ze.of_below a0.below)) a8 m6).trans (Ze.of_below (Za f9))).trans e5
   have d1:=((a8.blkT (b0.below a0.below) a0.blk (by decide)).below (Za f9)).only e5 (by decide)
   have i3:=Zn (Zb (a8.own3 (Zb a7 a0.below) a9) (Za f9)) e5 (by decide)
   have m8:=(((hI.below a0.below).only (Ze.of_upd (T:=[123]) a8 a0.blk (by decide)) (by decide)).below (Za f9)).only e5 (by decide)
   exact ze 2 (h6 _ _ _ ⟨i+1,_,_,rfl,rfl,i4,p7,b4,d1,b5,i3,(by rw[Fv (by omega) (by omega)];exact hM),m8,by omega⟩ (by omega))
  refine xb 5 1 m7 ?_
  refine xr 0 (args:=#[.string ⟨(((Zd l s.details 3 fuel).es.getD i Zj).2.1).toArray⟩]) (Gk ((Zd l s.details 3 fuel).es.getD i Zj).2.1 _ (Yq _ _ _ _ i (by omega))) fun v3 a4=>?_
  refine xa 3 [V0 0,V0 0,V0 0,V0 0] 202 fun u1 t5 a6=>?_
  have g9:=blB (a8.below (blB c6 hBw a0.below) (Nat.le_trans hBw m6)) hBw a4
  have q9:=a6.ge0 g9
  refine xsv 0 a6.blk [V0 (↑(Xu ((Zd l s.details 3 fuel).es.getD i Zj).2.1 0):Int),V0 (↑(Xu ((Zd l s.details 3 fuel).es.getD i Zj).2.1 1):Int),V0 (↑(Xu ((Zd l s.details 3 fuel).es.getD i Zj).2.1 2):Int),V0 (↑(Xu ((Zd l s.details 3 fuel).es.getD i Zj).2.1 3):Int)] fun c3 d2 r8=>?_
  refine xd 4 (.t B [114,100]) ?_
  have h0:=(d2.blkT ((m7.below a4).below a6.below) a6.blk (by decide)).below (Za c3)
  refine xbt (.e [0,1,2,3] 4) 2 B [114,100] h0 ?_
  have j3:=Zb (d2.own2 (Zb (Zb (a8.own2 (Zb ho a0.below) a0.blk (by decide)) a4) a6.below) a6.blk (by decide)) (Za c3)
  have j2:=(((((hM.below a0.below).updBlk a8 a0.blk).below a4).below a6.below).updBlk d2 a6.blk).below (Za c3)
  have b6:=(d2.blkT (((a8.blkT (c0.below a0.below) a0.blk (by decide)).below a4).below a6.below) a6.blk (by decide)).below (Za c3)
  have e7:=blB (d2.below (blB g9 hBw a6.below) (Nat.le_trans hBw q9)) hBw (Za c3)
  refine yc (.o [5] 6) (args:=#[P0 bx,V0 2,V0 (((Zd l s.details 3 fuel).es.getD i Zj).2.2),V0 (Xt Ky ((Zd l s.details 3 fuel).es.getD i Zj).2.1)]) (.t B [114,100]) (Jo B bx _ _ (D++(Zd l s.details 3 fuel).fs.map (Xk 2)++Yy ((Zd l s.details 3 fuel).es.take i)) ra rb rc _ _ _ _ _ _ _ _ _ _ _ _ _ _ _ _ _ _ _ 2 (((Zd l s.details 3 fuel).es.getD i Zj).2.2) (Xt Ky ((Zd l s.details 3 fuel).es.getD i Zj).2.1) _ b6 j3 j2 hBb (Nat.le_trans hBw e7.size) (by first|omega|(simp;omega))) ?_
  rintro e f0 r4
  rcases r4 with ⟨e3,rfl,a2⟩|⟨e3,rfl,pa,ca,a2,d4,h7,h3,hM⟩
  ·refine⟨(SF.of_below _ a2),?_⟩
   refine xd (.r [7] 3) (.t B [4]) ?_
   have b1:=(b6.below a2).below (Za f0)
   refine xbt (.e [0,1,2] 3) 14 B [4] b1 ?_
   have k1:=(h0.below a2).below (Za f0)
   refine xbt (.e [4] 5) 0 B [4] k1 ?_
   have l8:=((r8.below (Za c3)).below a2).below (Za f0)
   refine xlvt (.e [] 6) (.t B [4]) (fun V hV=>(l8.only hV.2 (by decide)).rp) ?_
   have d7:=(j2.below a2).below (Za f0)
   have b9:=Kn.obj d7.m1
   refine ymuV (.o [] 7) (((Zd l s.details 3 fuel).es.getD i Zj).1) (Hc ((Zd l s.details 3 fuel).es.getD i Zj)) (.t B [4]) Tryz.underlying108 (Sw Tryz.underlying3) d7.m1 (Zbd (Hz _ _ _ _).2.2.2.1 (by omega)) fun t4 f8 s6=>⟨Uf b9 f8 d7.g1,?_⟩
   refine xwm 4 ((i:Int)+1) (↑(i+1):Int) ?_
   have e6:=Yv b1 b9 f8
   have m9:=Xz (Zb (Zb j3 a2) (Za f0)) b9 f8
   have hM:=d7.put1 f8 s6
   have b4:=e6
   have b5:=m9
   rw[←Tg (by omega) (by omega) e3] at b4 b5
   have i2:=f8.below (blB (blB e7 hBw a2) hBw (Za f0)) d7.g1
   have r2:=((((Ze.upd_new (((Ze.upd_new (c8.trans (Ze.of_below a0.below)) a8 m6).trans (Ze.of_below a4)).trans (Ze.of_below a6.below)) d2 q9).trans (Ze.of_below (Za c3))).trans (Ze.of_below a2)).trans (Ze.of_below (Za f0))).trans (Xj b9 f8)
   have c9:=Yv ((((d2.blkT (((a8.blkT (b0.below a0.below) a0.blk (by decide)).below a4).below a6.below) a6.blk (by decide)).below (Za c3)).below a2).below (Za f0)) b9 f8
   have i1:=Xz (Zb (Zb (Zb (d2.own2 (Zb (Zb (a8.own3 (Zb a7 a0.below) a9) a4) a6.below) a6.blk (by decide)) (Za c3)) a2) (Za f0)) b9 f8
   have o7:=((((((((hI.below a0.below).only (Ze.of_upd (T:=[123]) a8 a0.blk (by decide)) (by decide)).below a4).below a6.below).only (Ze.of_upd (T:=[202]) d2 a6.blk (by decide)) (by decide)).below (Za c3)).below a2).below (Za f0)).only (Xj (T:=[]) b9 f8) (by decide)
   exact ze 2 (h6 _ _ _ ⟨i+1,_,_,rfl,rfl,i2,r2,b4,c9,b5,i1,(by rw[Zcu (by omega) (by omega) e3];exact hM),o7,by omega⟩ (by omega))
  refine⟨(Yh a2 d4),?_⟩
  refine xwm (.r [7] 7) ((i:Int)+1) (↑(i+1):Int) ?_
  have b4:=h7
  have b5:=h3
  rw[←Iu _ (by omega) (by omega) e3] at b4 b5
  have l5:=e7.trans a2
  have n5:=((Ze.upd_new (((Ze.upd_new (c8.trans (Ze.of_below a0.below)) a8 m6).trans (Ze.of_below a4)).trans (Ze.of_below a6.below)) d2 q9).trans (Ze.of_below (Za c3))).trans d4
  have d0:=((d2.blkT (((a8.blkT (b0.below a0.below) a0.blk (by decide)).below a4).below a6.below) a6.blk (by decide)).below (Za c3)).only d4 (by decide)
  have h2:=Zn (Zb (d2.own2 (Zb (Zb (a8.own3 (Zb a7 a0.below) a9) a4) a6.below) a6.blk (by decide)) (Za c3)) d4 (by decide)
  have l9:=((((((hI.below a0.below).only (Ze.of_upd (T:=[123]) a8 a0.blk (by decide)) (by decide)).below a4).below a6.below).only (Ze.of_upd (T:=[202]) d2 a6.blk (by decide)) (by decide)).below (Za c3)).only d4 (by decide)
  exact ze 2 (h6 _ _ _ ⟨i+1,_,_,rfl,rfl,l5,n5,b4,d0,b5,h2,(by rw[Fe (by omega) (by omega) e3];exact hM),l9,by omega⟩ (by omega))
 refine xe 4 (.tuple #[]) ?_
 obtain rfl:i=(Zd l s.details 3 fuel).es.length:=by omega
 have i0:=c0
 have j4:=ho
 have l6:=hM
 rw[List.take_of_length_le (Nat.le_refl _)] at i0 j4 l6
 exact⟨⟨_,rfl⟩,_,_,c6,c8,i0,j4,l6⟩
def TopP(B bx:Nat)(cs:List Value)(D:List Dg)(l:Bl)(s:Sup)(fuel:Int)(ra rb rc:Nat)(kd:List (Int×Value))(w:World)(e:Ending)(w':World):Prop :=
 ∃ u km,e=.returned u∧Cx B bx cs (D++(Zd l s.top 1 fuel).fs.map (Xk 3)++Gx l s.data fuel (Zd l s.top 1 fuel).es []) ra rb rc kd (Nn (Zd l s.top 1 fuel).es) km w w'∧Ks (Jl l s.data fuel) km w'∧km.map Prod.fst=Qm (Zd l s.top 1 fuel).es
theorem G_len{l:Bl}{data fuel:Int}{T:List Ent}{i:Nat}{G:List Dg}(hf:fuel≤1000)(hT:T.length≤18001)(h:G++Gx l data fuel (T.drop i) (Qm (T.take i))=Gx l data fuel T []):G.length≤324036001:=by
 have h1:=congrArg List.length h
 have h2:=Bb l data fuel hf T []
 rw[List.length_append] at h1
 have h3:18001*T.length≤18001*18001:=Nat.mul_le_mul_left _ hT
 omega
theorem Eg(A G H:List Dg):(A++G)++H=A++(G++H):=List.append_assoc A G H
theorem Ol(B bx:Nat)(p:O0)(c:Nat)(D:List Dg)(ra rb rc:Nat)(kd:List (Int×Value))(pi:O0)(ni ci Bi b:Nat)(l:Bl)(s:Sup)(fuel:Int)(w:World)(hk:Blk w bx [.slice p D.length c,P0 b,V0 s.tx,V0 s.time,V0 s.unit,V0 s.data,V0 s.blocks,V0 s.top,V0 s.details,V0 s.dslots,V0 s.dover,V0 s.mindex,V0 s.mover,V0 fuel,.map (some ra),.map (some rb),.map (some rc)] 114)(ho:w.ownsRow B 100 3 (.slice p D.length c) D.length (D.flatMap dmc))(hM:Maps3 B ra rb rc kd [] [] w)(hI:ImgR Bi b pi ni ci l w)(hfu:fuel≤1000)(hg:∀ W,Below B w W→Sm W)(hBb:B≤bx)(hBw:B≤w.heap.size)(hl:D.length≤500000000) :
 C0 50 #[P0 bx] w (TopP B bx [P0 b,V0 s.tx,V0 s.time,V0 s.unit,V0 s.data,V0 s.blocks,V0 s.top,V0 s.details,V0 s.dslots,V0 s.dover,V0 s.mindex,V0 s.mover,V0 fuel,.map (some ra),.map (some rb),.map (some rc)] D l s fuel ra rb rc kd w):=by
 have y0:=Yp l s.top 1 fuel hfu
 refine zin 76 Tryz.func50 ?_
 refine xd 1 (.t B [130]) ?_
 have g0:=hk.below (Za w)
 refine xbt (.e [0,1,2] 3) 1 B [130] g0 ?_
 refine xbt (.e [4,5,6,7] 8) 7 B [130] g0 ?_
 refine xbt (.e [9,10,11] 12) 13 B [130] g0 ?_
 refine xm2 0 13 14 ?_ ?_
 ·have n5:=hI.below (Za w)
  refine yc 0 (args:=#[P0 b,V0 s.top,V0 1,V0 fuel]) (.t B [130]) (Kx Bi b pi ni ci l s.top 1 fuel _ hfu n5) ?_
  rintro _ W1 ⟨pe,pb,pf,ce,cb,cf,fv,rfl,j1,c1,j7,v2⟩
  have x1:=(blB (Below.refl B w) hBw (Za w)).size
  refine⟨(SF.of_below _ j1),?_⟩
  have m1:=Zg c1 x1
  have o4:=Zg j7 x1
  replace c1:=Zg m1 hBw
  replace j7:=Zg o4 hBw
  refine xa (.o [] 14) [S0,S0,V0 0,V0 0,S0] 130 fun b2 W2 n2=>?_
  have g2:=n2.ge0 (blB (blB (Below.refl B w) hBw (Za w)) hBw j1)
  refine ysv (.o [] 15) n2.blk [.slice pe ((Zd l s.top 1 fuel).es.length) ce,.slice pb ((Zd l s.top 1 fuel).bs.length) cb,V0 ((Zd l s.top 1 fuel).deep),V0 (↑(Zd l s.top 1 fuel).looked:Int),.slice pf ((Zd l s.top 1 fuel).fs.length) cf] (.t B [130]) fun W3 u3 k3=>⟨(Zp u3 n2.blk (Nat.le_trans hBw g2) (by decide)),?_⟩
  refine xd 3 (.t B [114,100]) ?_
  have m4:=k3.below (Za W3)
  refine xbt (.e [0,1,2,3] 4) 4 B [114,100] m4 ?_
  have u0:=Zb (u3.own2 (Zb (Zb (Zb ho (Za w)) j1) n2.below) n2.blk (by decide)) (Za W3)
  have w0:=((((hM.below (Za w)).below j1).below n2.below).updBlk u3 n2.blk).below (Za W3)
  have l5:=Zb (u3.own2 (Zb j7 n2.below) n2.blk (by decide)) (Za W3)
  have v9:=(u3.blkT ((g0.below j1).below n2.below) n2.blk (by decide)).below (Za W3)
  have o6:=((v2.below n2.below).only (Ze.of_upd (T:=[130]) u3 n2.blk (by decide)) (by decide)).below (Za W3)
  have hB:=blB (u3.below (blB (blB (blB (Below.refl B w) hBw (Za w)) hBw j1) hBw n2.below) (Nat.le_trans hBw g2)) hBw (Za W3)
  refine yc (.o [] 5) (args:=#[P0 bx,V0 3,.slice pf ((Zd l s.top 1 fuel).fs.length) cf]) (.t B [114,100]) (Qp B bx _ _ D ra rb rc _ _ _ _ _ _ _ _ _ _ _ _ _ _ _ _ _ _ _ 3 pf cf (Zd l s.top 1 fuel).fs fv _ v9 u0 w0 l5 o6 (He _ _ _ _) (fun W hb=>hg W (Below.trans hB hb)) hBb (Nat.le_trans hBw hB.size) (by first|omega|(simp;omega))) ?_
  rintro _ W4 ⟨⟨u4,rfl⟩,p4,c4,w8,n0,x4,x9,hM⟩
  refine⟨(Yh w8 n0),?_⟩
  have p0:=m4.only n0 (by decide)
  refine xb 5 0 p0 ?_
  have o1:=x4
  have m8:=x9
  rw[(by rw[List.append_nil]:D++(Zd l s.top 1 fuel).fs.map (Xk 3)=D++(Zd l s.top 1 fuel).fs.map (Xk 3)++([]:List Dg))] at o1 m8
  have m9:=Zn (Zb (u3.own2 (Zb c1 n2.below) n2.blk (by decide)) (Za W3)) n0 (by decide)
  have w1:=((((n5.below j1).below n2.below).only (Ze.of_upd (T:=[130]) u3 n2.blk (by decide)) (by decide)).below (Za W3)).only n0 (by decide)
  have v6:=hB.trans w8
  have hO:=((Ze.upd_new (((show Ze [114,100] w _ from(Ze.of_below (Za w))).trans (Ze.of_below j1)).trans (Ze.of_below n2.below)) u3 g2).trans (Ze.of_below (Za W3))).trans n0
  refine zl 5 76 (fun zm s7 V=>∃ (i:Nat) (p:O0) (c:Nat) (G:List Dg) (kv:List (Int×Value)),s7=[(0,P0 bx),(30,.slice pe ((Zd l s.top 1 fuel).es.length) ce),(31,V0 (↑((Zd l s.top 1 fuel).es.length):Int)),(32,V0 (i:Int))]∧zm=(Zd l s.top 1 fuel).es.length-((i:Int)).toNat∧Below B w V∧Ze [114,100] w V∧Blk V bx ([.slice p ((D++(Zd l s.top 1 fuel).fs.map (Xk 3)++G).length) c,P0 b,V0 s.tx,V0 s.time,V0 s.unit,V0 s.data,V0 s.blocks,V0 s.top,V0 s.details,V0 s.dslots,V0 s.dover,V0 s.mindex,V0 s.mover,V0 fuel,.map (some ra),.map (some rb),.map (some rc)]) 114∧Blk V b2 ([.slice pe ((Zd l s.top 1 fuel).es.length) ce,.slice pb ((Zd l s.top 1 fuel).bs.length) cb,V0 ((Zd l s.top 1 fuel).deep),V0 (↑(Zd l s.top 1 fuel).looked:Int),.slice pf ((Zd l s.top 1 fuel).fs.length) cf]) 130∧V.ownsRow B 100 3 (.slice p (D++(Zd l s.top 1 fuel).fs.map (Xk 3)++G).length c) (D++(Zd l s.top 1 fuel).fs.map (Xk 3)++G).length ((D++(Zd l s.top 1 fuel).fs.map (Xk 3)++G).flatMap dmc)∧V.ownsRow B 123 3 (.slice pe (Zd l s.top 1 fuel).es.length ce) (Zd l s.top 1 fuel).es.length ((Zd l s.top 1 fuel).es.flatMap Vt)∧Maps3 B ra rb rc kd (Nn ((Zd l s.top 1 fuel).es.take i)) kv V∧ImgR Bi b pi ni ci l V∧Ks (Jl l s.data fuel) kv V∧i≤(Zd l s.top 1 fuel).es.length∧kv.map Prod.fst=(Qm ((Zd l s.top 1 fuel).es.take i))∧G++Gx l s.data fuel ((Zd l s.top 1 fuel).es.drop i) (Qm ((Zd l s.top 1 fuel).es.take i))=Gx l s.data fuel (Zd l s.top 1 fuel).es []) ⟨0,_,_,[],[],rfl,rfl,v6,hO,o1,p0,m8,m9,hM,w1,Ks.nil _,Nat.zero_le _,rfl,rfl⟩ ?_
  rintro _ _ W5 ⟨i,p,c,G,kv,rfl,rfl,j3,h1,j0,e3,ho,c1,hM,hI,hR,hi,d8,a6⟩ J5 r0 r5
  have y2:=Yp l s.top 1 fuel hfu
  have y3:=G_len hfu (by omega) a6
  refine xid 6 ((i:Int)<(↑((Zd l s.top 1 fuel).es.length):Int)) (fun x5=>?_) (fun x5=>?_)
  ·refine xx 6 _ ((Zd l s.top 1 fuel).es.length) i 3 (Sts.cell (f:=Vt) (Zh c1) Zy Zj (k:=i) (i:=0) (by omega) rfl).1 ?_
   refine xlv 0 (Sts.rp (k:=i) (Zh c1) Zy Zj (by omega) (by decide)) ?_
   refine xa 0 [V0 0,.string ⟨#[]⟩,V0 0] 123 fun b7 W7 n7=>?_
   have g7:=n7.ge0 j3
   have c9:=Zx c1 n7
   refine xsv 0 n7.blk [V0 (((Zd l s.top 1 fuel).es.getD i Zj).1),.string ⟨(((Zd l s.top 1 fuel).es.getD i Zj).2.1).toArray⟩,V0 (((Zd l s.top 1 fuel).es.getD i Zj).2.2)] fun W8 u8 k8=>?_
   refine xb 5 1 k8 ?_
   refine xr 0 (args:=#[.string ⟨(((Zd l s.top 1 fuel).es.getD i Zj).2.1).toArray⟩]) (Jv ((Zd l s.top 1 fuel).es.getD i Zj).2.1 _ (Yq _ _ _ _ i (by omega))) fun W9 b0=>?_
   refine xd 9 (.t B [114,100]) ?_
   have p2:=(k8.below b0).below (Za W9)
   refine xbt (.e [0,1,2,3] 4) 2 B [114,100] p2 ?_
   have h6:=Zb (Zb (u8.own2 (Zb ho n7.below) n7.blk (by decide)) b0) (Za W9)
   have p7:=(((hM.below n7.below).updBlk u8 n7.blk).below b0).below (Za W9)
   have e4:=((u8.blkT (j0.below n7.below) n7.blk (by decide)).below b0).below (Za W9)
   have f5:=blB (blB (u8.below (blB j3 hBw n7.below) (Nat.le_trans hBw g7)) hBw b0) hBw (Za W9)
   refine yc (.o [5] 6) (args:=#[P0 bx,V0 3,V0 (((Zd l s.top 1 fuel).es.getD i Zj).2.2),V0 (Xo ((Zd l s.top 1 fuel).es.getD i Zj).2.1)]) (.t B [114,100]) (Jo B bx _ _ (D++(Zd l s.top 1 fuel).fs.map (Xk 3)++G) ra rb rc _ _ _ _ _ _ _ _ _ _ _ _ _ _ _ _ _ _ _ 3 (((Zd l s.top 1 fuel).es.getD i Zj).2.2) (Xo ((Zd l s.top 1 fuel).es.getD i Zj).2.1) _ e4 h6 p7 hBb (Nat.le_trans hBw f5.size) (by first|omega|(simp;omega))) ?_
   rintro e c0 s8
   rcases s8 with ⟨b3,rfl,a0⟩|⟨b3,rfl,pa,ca,a0,f3,w2,s1,hM⟩
   ·refine⟨(SF.of_below _ a0),?_⟩
    refine xd 6 (.t B [4]) ?_
    have e1:=(e4.below a0).below (Za c0)
    refine xbt (.e [0,1,2] 3) 15 B [4] e1 ?_
    have w5:=(p2.below a0).below (Za c0)
    refine xbt (.e [4] 5) 0 B [4] w5 ?_
    have d3:=(p7.below a0).below (Za c0)
    have a4:=Kn.obj d3.m2
    refine ymuV (.o [6] 7) (((Zd l s.top 1 fuel).es.getD i Zj).1) (V0 (↑(Zo ((Zd l s.top 1 fuel).es.getD i Zj).2.1):Int)) (.t B [4]) Tryz.underlying109 (Sw Tryz.underlying3) d3.m2 (Ia (Hz _ _ _ _).2.2.2.1 (by omega)) fun d0 b1 w9=>⟨Uf a4 b1 d3.g2,?_⟩
    have b4:=Yv e1 a4 b1
    refine xb 7 16 b4 ?_
    by_cases hsm:(↑(Zo ((Zd l s.top 1 fuel).es.getD i Zj).2.1):Int)∈(Qm ((Zd l s.top 1 fuel).es.take i))
    ·have n1:=((((((hR.below n7.below).only (Ze.of_upd (T:=[123]) u8 n7.blk (by decide)) (by decide)).below b0).below (Za W9)).below a0).below (Za c0)).only (Xj (T:=[]) a4 b1) (by decide)
     obtain⟨am,cm,f6,_⟩:=n1.get (d8.symm▸hsm)
     have hM:=d3.put2 b1 w9
     refine xlkS 1 (↑(Zo ((Zd l s.top 1 fuel).es.getD i Zj).2.1):Int) true Tryz.underlying110 (Sw Tryz.underlying3) hM.m3 f6 ?_
     refine xwm 18 ((i:Int)+1) (↑(i+1):Int) ?_
     have u1:=Xz (Zb (Zb h6 a0) (Za c0)) a4 b1
     have c2:=b4
     have c3:=u1
     have t4:=b1.below (blB (blB f5 hBw a0) hBw (Za c0)) d3.g2
     have v7:=(((((Ze.upd_new (h1.trans (Ze.of_below n7.below)) u8 g7).trans (Ze.of_below b0)).trans (Ze.of_below (Za W9))).trans (Ze.of_below a0)).trans (Ze.of_below (Za c0))).trans (Xj a4 b1)
     have h4:=Yv (((((u8.blkT (e3.below n7.below) n7.blk (by decide)).below b0).below (Za W9)).below a0).below (Za c0)) a4 b1
     have o7:=Xz (Zb (Zb (Zb (Zb (u8.own3 (Zb c1 n7.below) c9) b0) (Za W9)) a0) (Za c0)) a4 b1
     have u5:=((((((hI.below n7.below).only (Ze.of_upd (T:=[123]) u8 n7.blk (by decide)) (by decide)).below b0).below (Za W9)).below a0).below (Za c0)).only (Xj (T:=[]) a4 b1) (by decide)
     exact ze 2 (r0 _ _ _ ⟨i+1,_,_,_,_,rfl,rfl,t4,v7,c2,h4,c3,o7,(by rw[Hm (by omega) b3];exact hM),u5,n1,by omega,(d8.trans (Zbe (by omega) hsm).symm),Zag (by omega) a6 b3 hsm⟩ (by omega))
    have f6:Vm kv (↑(Zo ((Zd l s.top 1 fuel).es.getD i Zj).2.1):Int)=none:=Mc (d8.symm▸hsm)
    have hM:=d3.put2 b1 w9
    refine xlkN 1 (z:=S0) (↑(Zo ((Zd l s.top 1 fuel).es.getD i Zj).2.1):Int) true Tryz.underlying110 (Sw Tryz.underlying3) (fun V=>by kernel_rfl) hM.m3 f6 ?_
    refine xd 14 (.t B [114,100]) ?_
    refine xm2 (.b [0,1,2,4,5,6]) 3 7 ?_ ?_
    ·have e2:=b4.below (Za d0)
     refine xb 0 16 e2 ?_
     have t2:=Zb (Xz (Zb (Zb h6 a0) (Za c0)) a4 b1) (Za d0)
     have t9:=hM.below (Za d0)
     have q0:=(((((((hI.below n7.below).only (Ze.of_upd (T:=[123]) u8 n7.blk (by decide)) (by decide)).below b0).below (Za W9)).below a0).below (Za c0)).only (Xj (T:=[]) a4 b1) (by decide)).below (Za d0)
     have k1:=blB (b1.below (blB (blB f5 hBw a0) hBw (Za c0)) d3.g2) hBw (Za d0)
     refine yc (.o [] 7) (args:=#[P0 bx,V0 (↑(Zo ((Zd l s.top 1 fuel).es.getD i Zj).2.1):Int)]) (.t B [114,100]) (Gh B bx _ _ (D++(Zd l s.top 1 fuel).fs.map (Xk 3)++G) ra rb rc _ _ _ pi ni ci Bi b l s fuel (↑(Zo ((Zd l s.top 1 fuel).es.getD i Zj).2.1):Int) _ e2 t2 t9 q0 hfu (fun W hb=>hg W (Below.trans k1 hb)) hBb (Nat.le_trans hBw k1.size) (by first|omega|(simp;omega))) ?_
     rintro _ y8 ⟨po,co,rfl,j6,pv,cv,n8,e8,h9,k0,hM⟩
     refine⟨(Yh n8 e8),?_⟩
     have c8:=Kn.obj hM.m3
     refine ymuV (.o [] 8) (↑(Zo ((Zd l s.top 1 fuel).es.getD i Zj).2.1):Int) (.slice po ((Jl l s.data fuel (↑(Zo ((Zd l s.top 1 fuel).es.getD i Zj).2.1):Int)).length) co) (.t B [114,100]) Tryz.underlying110 (Sw Tryz.underlying3) hM.m3 f6 fun z3 g8 x7=>⟨Uf c8 g8 hM.g3,?_⟩
     have r9:=(((((((((hR.below n7.below).only (Ze.of_upd (T:=[123]) u8 n7.blk (by decide)) (by decide)).below b0).below (Za W9)).below a0).below (Za c0)).only (Xj (T:=[]) a4 b1) (by decide)).below (Za d0)).only e8 (by decide)).only (Xj (T:=[]) c8 g8) (by decide)
     have l2:=Xz j6 c8 g8
     have j8:=Ks.snoc r9 l2
     refine xwm 4 ((i:Int)+1) (↑(i+1):Int) ?_
     have p9:=Yv h9 c8 g8
     have q9:=Xz k0 c8 g8
     have hM:=hM.put3 g8 x7
     have c2:=p9
     have c3:=q9
     rw[Eg] at c2 c3
     have s6:=g8.below (k1.trans n8) hM.g3
     have r7:=((((((((Ze.upd_new (h1.trans (Ze.of_below n7.below)) u8 g7).trans (Ze.of_below b0)).trans (Ze.of_below (Za W9))).trans (Ze.of_below a0)).trans (Ze.of_below (Za c0))).trans (Xj a4 b1)).trans (Ze.of_below (Za d0))).trans e8).trans (Xj c8 g8)
     have i3:=Yv (((Yv (((((u8.blkT (e3.below n7.below) n7.blk (by decide)).below b0).below (Za W9)).below a0).below (Za c0)) a4 b1).below (Za d0)).only e8 (by decide)) c8 g8
     have q7:=Xz (Zn (Zb (Xz (Zb (Zb (Zb (Zb (u8.own3 (Zb c1 n7.below) c9) b0) (Za W9)) a0) (Za c0)) a4 b1) (Za d0)) e8 (by decide)) c8 g8
     have v3:=(q0.only e8 (by decide)).only (Xj (T:=[]) c8 g8) (by decide)
     exact ze 2 (r0 _ _ _ ⟨i+1,_,_,_,_,rfl,rfl,s6,r7,c2,i3,c3,q7,(by rw[Hm (by omega) b3];exact hM),v3,j8,by omega,by rw[List.map_append,d8,Bd (by omega) b3 hsm];rfl,Cn (by omega) a6 b3 hsm⟩ (by omega))
    have u7:=Zb (Xz (Zb (Zb h6 a0) (Za c0)) a4 b1) (Za d0)
    have r6:=hM.below (Za d0)
    have o0:=(((((((hI.below n7.below).only (Ze.of_upd (T:=[123]) u8 n7.blk (by decide)) (by decide)).below b0).below (Za W9)).below a0).below (Za c0)).only (Xj (T:=[]) a4 b1) (by decide)).below (Za d0)
    have i2:=b4.below (Za d0)
    have j9:=blB (b1.below (blB (blB f5 hBw a0) hBw (Za c0)) d3.g2) hBw (Za d0)
    refine yc 0 (args:=#[P0 bx,V0 (↑(Zo ((Zd l s.top 1 fuel).es.getD i Zj).2.1):Int)]) (.t B [114,100]) (Gh B bx _ _ (D++(Zd l s.top 1 fuel).fs.map (Xk 3)++G) ra rb rc _ _ _ pi ni ci Bi b l s fuel (↑(Zo ((Zd l s.top 1 fuel).es.getD i Zj).2.1):Int) _ i2 u7 r6 o0 hfu (fun W hb=>hg W (Below.trans j9 hb)) hBb (Nat.le_trans hBw j9.size) (by first|omega|(simp;omega))) ?_
    rintro _ y4 ⟨po,co,rfl,j6,pv,cv,n9,e7,h9,k0,hM⟩
    refine⟨(Yh n9 e7),?_⟩
    refine xb (.o [] 3) 16 h9 ?_
    have c6:=Kn.obj hM.m3
    refine ymuV (.o [] 8) (↑(Zo ((Zd l s.top 1 fuel).es.getD i Zj).2.1):Int) (.slice po ((Jl l s.data fuel (↑(Zo ((Zd l s.top 1 fuel).es.getD i Zj).2.1):Int)).length) co) (.t B [114,100]) Tryz.underlying110 (Sw Tryz.underlying3) hM.m3 f6 fun z9 g9 x3=>⟨Uf c6 g9 hM.g3,?_⟩
    have v5:=(((((((((hR.below n7.below).only (Ze.of_upd (T:=[123]) u8 n7.blk (by decide)) (by decide)).below b0).below (Za W9)).below a0).below (Za c0)).only (Xj (T:=[]) a4 b1) (by decide)).below (Za d0)).only e7 (by decide)).only (Xj (T:=[]) c6 g9) (by decide)
    have k2:=Xz j6 c6 g9
    have j8:=Ks.snoc v5 k2
    refine xwm 4 ((i:Int)+1) (↑(i+1):Int) ?_
    have m7:=Yv h9 c6 g9
    have l8:=Xz k0 c6 g9
    have hM:=hM.put3 g9 x3
    have c2:=m7
    have c3:=l8
    rw[Eg] at c2 c3
    have s0:=g9.below (j9.trans n9) hM.g3
    have t8:=((((((((Ze.upd_new (h1.trans (Ze.of_below n7.below)) u8 g7).trans (Ze.of_below b0)).trans (Ze.of_below (Za W9))).trans (Ze.of_below a0)).trans (Ze.of_below (Za c0))).trans (Xj a4 b1)).trans (Ze.of_below (Za d0))).trans e7).trans (Xj c6 g9)
    have h5:=Yv (((Yv (((((u8.blkT (e3.below n7.below) n7.blk (by decide)).below b0).below (Za W9)).below a0).below (Za c0)) a4 b1).below (Za d0)).only e7 (by decide)) c6 g9
    have p8:=Xz (Zn (Zb (Xz (Zb (Zb (Zb (Zb (u8.own3 (Zb c1 n7.below) c9) b0) (Za W9)) a0) (Za c0)) a4 b1) (Za d0)) e7 (by decide)) c6 g9
    have t5:=(o0.only e7 (by decide)).only (Xj (T:=[]) c6 g9) (by decide)
    exact ze 2 (r0 _ _ _ ⟨i+1,_,_,_,_,rfl,rfl,s0,t8,c2,h5,c3,p8,(by rw[Hm (by omega) b3];exact hM),t5,j8,by omega,by rw[List.map_append,d8,Bd (by omega) b3 hsm];rfl,Cn (by omega) a6 b3 hsm⟩ (by omega))
   refine⟨(Yh a0 f3),?_⟩
   refine xwm 8 ((i:Int)+1) (↑(i+1):Int) ?_
   have c2:=w2
   have c3:=s1
   rw[Eg] at c2 c3
   have s4:=f5.trans a0
   have u9:=(((Ze.upd_new (h1.trans (Ze.of_below n7.below)) u8 g7).trans (Ze.of_below b0)).trans (Ze.of_below (Za W9))).trans f3
   have i4:=(((u8.blkT (e3.below n7.below) n7.blk (by decide)).below b0).below (Za W9)).only f3 (by decide)
   have o9:=Zn (Zb (Zb (u8.own3 (Zb c1 n7.below) c9) b0) (Za W9)) f3 (by decide)
   have r2:=((((hI.below n7.below).only (Ze.of_upd (T:=[123]) u8 n7.blk (by decide)) (by decide)).below b0).below (Za W9)).only f3 (by decide)
   have s9:=((((hR.below n7.below).only (Ze.of_upd (T:=[123]) u8 n7.blk (by decide)) (by decide)).below b0).below (Za W9)).only f3 (by decide)
   exact ze 2 (r0 _ _ _ ⟨i+1,_,_,_,_,rfl,rfl,s4,u9,c2,i4,c3,o9,(by rw[Rj (by omega) b3];exact hM),r2,s9,by omega,(d8.trans (Zck (by omega) b3).symm),Zaa (by omega) a6 b3⟩ (by omega))
  refine xe 4 (.tuple #[]) ?_
  obtain rfl:i=(Zd l s.top 1 fuel).es.length:=by omega
  have r3:=j0
  have t1:=ho
  have p3:=hM
  rw[List.drop_eq_nil_of_le (Nat.le_refl _)] at a6
  rw[List.take_of_length_le (Nat.le_refl _)] at p3 d8
  obtain rfl:G=Gx l s.data fuel (Zd l s.top 1 fuel).es []:=by rw[←a6];exact(List.append_nil _).symm
  exact⟨_,_,rfl,⟨_,_,j3,h1,r3,t1,p3⟩,hR,d8⟩
 refine xa 0 [S0,S0,V0 0,V0 0,S0] 130 fun x6 y7 i1=>?_
 have n6:=(hI.below (Za w)).below i1.below
 refine yc (.o [] 13) (args:=#[P0 b,V0 s.top,V0 1,V0 fuel]) (.t B [130]) (Kx Bi b pi ni ci l s.top 1 fuel _ hfu n6) ?_
 rintro _ z5 ⟨pe,pb,pf,ce,cb,cf,fv,rfl,d5,c1,j7,v2⟩
 have l7:=(blB (blB (Below.refl B w) hBw (Za w)) hBw i1.below).size
 refine⟨(SF.of_below _ d5),?_⟩
 have l6:=Zg c1 l7
 have l3:=Zg j7 l7
 replace c1:=Zg l6 hBw
 replace j7:=Zg l3 hBw
 have h8:=i1.blk.below d5
 have t3:=i1.ge0 (blB (Below.refl B w) hBw (Za w))
 refine ysv (.o [] 15) h8 [.slice pe ((Zd l s.top 1 fuel).es.length) ce,.slice pb ((Zd l s.top 1 fuel).bs.length) cb,V0 ((Zd l s.top 1 fuel).deep),V0 (↑(Zd l s.top 1 fuel).looked:Int),.slice pf ((Zd l s.top 1 fuel).fs.length) cf] (.t B [130]) fun h3 h2 x2=>⟨(Zp h2 h8 (Nat.le_trans hBw t3) (by decide)),?_⟩
 refine xd 3 (.t B [114,100]) ?_
 have i8:=x2.below (Za h3)
 refine xbt (.e [0,1,2,3] 4) 4 B [114,100] i8 ?_
 have s5:=Zb (h2.own2 (Zb (Zb (Zb ho (Za w)) i1.below) d5) h8 (by decide)) (Za h3)
 have u6:=((((hM.below (Za w)).below i1.below).below d5).updBlk h2 h8).below (Za h3)
 have q3:=Zb (h2.own2 j7 h8 (by decide)) (Za h3)
 have v1:=(h2.blkT ((g0.below i1.below).below d5) h8 (by decide)).below (Za h3)
 have o2:=(v2.only (Ze.of_upd (T:=[130]) h2 h8 (by decide)) (by decide)).below (Za h3)
 have hB:=blB (h2.below (blB (blB (blB (Below.refl B w) hBw (Za w)) hBw i1.below) hBw d5) (Nat.le_trans hBw t3)) hBw (Za h3)
 refine yc (.o [] 5) (args:=#[P0 bx,V0 3,.slice pf ((Zd l s.top 1 fuel).fs.length) cf]) (.t B [114,100]) (Qp B bx _ _ D ra rb rc _ _ _ _ _ _ _ _ _ _ _ _ _ _ _ _ _ _ _ 3 pf cf (Zd l s.top 1 fuel).fs fv _ v1 s5 u6 q3 o2 (He _ _ _ _) (fun W hb=>hg W (Below.trans hB hb)) hBb (Nat.le_trans hBw hB.size) (by first|omega|(simp;omega))) ?_
 rintro _ ad ⟨⟨z8,rfl⟩,y6,ab,m5,f7,r8,u2,hM⟩
 refine⟨(Yh m5 f7),?_⟩
 have i7:=i8.only f7 (by decide)
 refine xb 5 0 i7 ?_
 have o1:=r8
 have m8:=u2
 rw[(by rw[List.append_nil]:D++(Zd l s.top 1 fuel).fs.map (Xk 3)=D++(Zd l s.top 1 fuel).fs.map (Xk 3)++([]:List Dg))] at o1 m8
 have l1:=Zn (Zb (h2.own2 c1 h8 (by decide)) (Za h3)) f7 (by decide)
 have q1:=(((n6.below d5).only (Ze.of_upd (T:=[130]) h2 h8 (by decide)) (by decide)).below (Za h3)).only f7 (by decide)
 have s3:=hB.trans m5
 have hO:=((Ze.upd_new (((show Ze [114,100] w _ from(Ze.of_below (Za w))).trans (Ze.of_below i1.below)).trans (Ze.of_below d5)) h2 t3).trans (Ze.of_below (Za h3))).trans f7
 refine zl 5 76 (fun zm s7 V=>∃ (i:Nat) (p:O0) (c:Nat) (G:List Dg) (kv:List (Int×Value)),s7=[(0,P0 bx),(30,.slice pe ((Zd l s.top 1 fuel).es.length) ce),(31,V0 (↑((Zd l s.top 1 fuel).es.length):Int)),(32,V0 (i:Int))]∧zm=(Zd l s.top 1 fuel).es.length-((i:Int)).toNat∧Below B w V∧Ze [114,100] w V∧Blk V bx ([.slice p ((D++(Zd l s.top 1 fuel).fs.map (Xk 3)++G).length) c,P0 b,V0 s.tx,V0 s.time,V0 s.unit,V0 s.data,V0 s.blocks,V0 s.top,V0 s.details,V0 s.dslots,V0 s.dover,V0 s.mindex,V0 s.mover,V0 fuel,.map (some ra),.map (some rb),.map (some rc)]) 114∧Blk V x6 ([.slice pe ((Zd l s.top 1 fuel).es.length) ce,.slice pb ((Zd l s.top 1 fuel).bs.length) cb,V0 ((Zd l s.top 1 fuel).deep),V0 (↑(Zd l s.top 1 fuel).looked:Int),.slice pf ((Zd l s.top 1 fuel).fs.length) cf]) 130∧V.ownsRow B 100 3 (.slice p (D++(Zd l s.top 1 fuel).fs.map (Xk 3)++G).length c) (D++(Zd l s.top 1 fuel).fs.map (Xk 3)++G).length ((D++(Zd l s.top 1 fuel).fs.map (Xk 3)++G).flatMap dmc)∧V.ownsRow B 123 3 (.slice pe (Zd l s.top 1 fuel).es.length ce) (Zd l s.top 1 fuel).es.length ((Zd l s.top 1 fuel).es.flatMap Vt)∧Maps3 B ra rb rc kd (Nn ((Zd l s.top 1 fuel).es.take i)) kv V∧ImgR Bi b pi ni ci l V∧Ks (Jl l s.data fuel) kv V∧i≤(Zd l s.top 1 fuel).es.length∧kv.map Prod.fst=(Qm ((Zd l s.top 1 fuel).es.take i))∧G++Gx l s.data fuel ((Zd l s.top 1 fuel).es.drop i) (Qm ((Zd l s.top 1 fuel).es.take i))=Gx l s.data fuel (Zd l s.top 1 fuel).es []) ⟨0,_,_,[],[],rfl,rfl,s3,hO,o1,i7,m8,l1,hM,q1,Ks.nil _,Nat.zero_le _,rfl,rfl⟩ ?_
 rintro _ _ ac ⟨i,p,c,G,kv,rfl,rfl,f8,d7,f9,b8,ho,c1,hM,hI,hR,hi,d8,a6⟩ z2 i0 z4
 have y2:=Yp l s.top 1 fuel hfu
 have y3:=G_len hfu (by omega) a6
 refine xid 6 ((i:Int)<(↑((Zd l s.top 1 fuel).es.length):Int)) (fun w6=>?_) (fun w6=>?_)
 ·refine xx 6 _ ((Zd l s.top 1 fuel).es.length) i 3 (Sts.cell (f:=Vt) (Zh c1) Zy Zj (k:=i) (i:=0) (by omega) rfl).1 ?_
  refine xlv 0 (Sts.rp (k:=i) (Zh c1) Zy Zj (by omega) (by decide)) ?_
  refine xa 0 [V0 0,.string ⟨#[]⟩,V0 0] 123 fun z7 aa a3=>?_
  have q8:=a3.ge0 f8
  have b6:=Zx c1 a3
  refine xsv 0 a3.blk [V0 (((Zd l s.top 1 fuel).es.getD i Zj).1),.string ⟨(((Zd l s.top 1 fuel).es.getD i Zj).2.1).toArray⟩,V0 (((Zd l s.top 1 fuel).es.getD i Zj).2.2)] fun z6 b9 w7=>?_
  refine xb 5 1 w7 ?_
  refine xr 0 (args:=#[.string ⟨(((Zd l s.top 1 fuel).es.getD i Zj).2.1).toArray⟩]) (Jv ((Zd l s.top 1 fuel).es.getD i Zj).2.1 _ (Yq _ _ _ _ i (by omega))) fun a9 a2=>?_
  refine xd 9 (.t B [114,100]) ?_
  have i6:=(w7.below a2).below (Za a9)
  refine xbt (.e [0,1,2,3] 4) 2 B [114,100] i6 ?_
  have h7:=Zb (Zb (b9.own2 (Zb ho a3.below) a3.blk (by decide)) a2) (Za a9)
  have m0:=(((hM.below a3.below).updBlk b9 a3.blk).below a2).below (Za a9)
  have d6:=((b9.blkT (f9.below a3.below) a3.blk (by decide)).below a2).below (Za a9)
  have d2:=blB (blB (b9.below (blB f8 hBw a3.below) (Nat.le_trans hBw q8)) hBw a2) hBw (Za a9)
  refine yc (.o [5] 6) (args:=#[P0 bx,V0 3,V0 (((Zd l s.top 1 fuel).es.getD i Zj).2.2),V0 (Xo ((Zd l s.top 1 fuel).es.getD i Zj).2.1)]) (.t B [114,100]) (Jo B bx _ _ (D++(Zd l s.top 1 fuel).fs.map (Xk 3)++G) ra rb rc _ _ _ _ _ _ _ _ _ _ _ _ _ _ _ _ _ _ _ 3 (((Zd l s.top 1 fuel).es.getD i Zj).2.2) (Xo ((Zd l s.top 1 fuel).es.getD i Zj).2.1) _ d6 h7 m0 hBb (Nat.le_trans hBw d2.size) (by first|omega|(simp;omega))) ?_
  rintro e b5 v4
  rcases v4 with ⟨b3,rfl,a1⟩|⟨b3,rfl,pa,ca,a1,f4,w2,s1,hM⟩
  ·refine⟨(SF.of_below _ a1),?_⟩
   refine xd 6 (.t B [4]) ?_
   have d9:=(d6.below a1).below (Za b5)
   refine xbt (.e [0,1,2] 3) 15 B [4] d9 ?_
   have p1:=(i6.below a1).below (Za b5)
   refine xbt (.e [4] 5) 0 B [4] p1 ?_
   have d4:=(m0.below a1).below (Za b5)
   have a5:=Kn.obj d4.m2
   refine ymuV (.o [6] 7) (((Zd l s.top 1 fuel).es.getD i Zj).1) (V0 (↑(Zo ((Zd l s.top 1 fuel).es.getD i Zj).2.1):Int)) (.t B [4]) Tryz.underlying109 (Sw Tryz.underlying3) d4.m2 (Ia (Hz _ _ _ _).2.2.2.1 (by omega)) fun d1 a8 x0=>⟨Uf a5 a8 d4.g2,?_⟩
   have a7:=Yv d9 a5 a8
   refine xb 7 16 a7 ?_
   by_cases hsm:(↑(Zo ((Zd l s.top 1 fuel).es.getD i Zj).2.1):Int)∈(Qm ((Zd l s.top 1 fuel).es.take i))
   ·have q2:=((((((hR.below a3.below).only (Ze.of_upd (T:=[123]) b9 a3.blk (by decide)) (by decide)).below a2).below (Za a9)).below a1).below (Za b5)).only (Xj (T:=[]) a5 a8) (by decide)
    obtain⟨am,cm,f6,_⟩:=q2.get (d8.symm▸hsm)
    have hM:=d4.put2 a8 x0
    refine xlkS 1 (↑(Zo ((Zd l s.top 1 fuel).es.getD i Zj).2.1):Int) true Tryz.underlying110 (Sw Tryz.underlying3) hM.m3 f6 ?_
    refine xwm 18 ((i:Int)+1) (↑(i+1):Int) ?_
    have r4:=Xz (Zb (Zb h7 a1) (Za b5)) a5 a8
    have c2:=a7
    have c3:=r4
    have m6:=a8.below (blB (blB d2 hBw a1) hBw (Za b5)) d4.g2
    have w3:=(((((Ze.upd_new (d7.trans (Ze.of_below a3.below)) b9 q8).trans (Ze.of_below a2)).trans (Ze.of_below (Za a9))).trans (Ze.of_below a1)).trans (Ze.of_below (Za b5))).trans (Xj a5 a8)
    have f2:=Yv (((((b9.blkT (b8.below a3.below) a3.blk (by decide)).below a2).below (Za a9)).below a1).below (Za b5)) a5 a8
    have k4:=Xz (Zb (Zb (Zb (Zb (b9.own3 (Zb c1 a3.below) b6) a2) (Za a9)) a1) (Za b5)) a5 a8
    have k6:=((((((hI.below a3.below).only (Ze.of_upd (T:=[123]) b9 a3.blk (by decide)) (by decide)).below a2).below (Za a9)).below a1).below (Za b5)).only (Xj (T:=[]) a5 a8) (by decide)
    exact ze 2 (i0 _ _ _ ⟨i+1,_,_,_,_,rfl,rfl,m6,w3,c2,f2,c3,k4,(by rw[Hm (by omega) b3];exact hM),k6,q2,by omega,(d8.trans (Zbe (by omega) hsm).symm),Zag (by omega) a6 b3 hsm⟩ (by omega))
   have f6:Vm kv (↑(Zo ((Zd l s.top 1 fuel).es.getD i Zj).2.1):Int)=none:=Mc (d8.symm▸hsm)
   have hM:=d4.put2 a8 x0
   refine xlkN 1 (z:=S0) (↑(Zo ((Zd l s.top 1 fuel).es.getD i Zj).2.1):Int) true Tryz.underlying110 (Sw Tryz.underlying3) (fun V=>by kernel_rfl) hM.m3 f6 ?_
   refine xd 14 (.t B [114,100]) ?_
   refine xm2 (.b [0,1,2,4,5,6]) 3 7 ?_ ?_
   ·have e0:=a7.below (Za d1)
    refine xb 0 16 e0 ?_
    have w4:=Zb (Xz (Zb (Zb h7 a1) (Za b5)) a5 a8) (Za d1)
    have t0:=hM.below (Za d1)
    have i9:=(((((((hI.below a3.below).only (Ze.of_upd (T:=[123]) b9 a3.blk (by decide)) (by decide)).below a2).below (Za a9)).below a1).below (Za b5)).only (Xj (T:=[]) a5 a8) (by decide)).below (Za d1)
    have h0:=blB (a8.below (blB (blB d2 hBw a1) hBw (Za b5)) d4.g2) hBw (Za d1)
    refine yc (.o [] 7) (args:=#[P0 bx,V0 (↑(Zo ((Zd l s.top 1 fuel).es.getD i Zj).2.1):Int)]) (.t B [114,100]) (Gh B bx _ _ (D++(Zd l s.top 1 fuel).fs.map (Xk 3)++G) ra rb rc _ _ _ pi ni ci Bi b l s fuel (↑(Zo ((Zd l s.top 1 fuel).es.getD i Zj).2.1):Int) _ e0 w4 t0 i9 hfu (fun W hb=>hg W (Below.trans h0 hb)) hBb (Nat.le_trans hBw h0.size) (by first|omega|(simp;omega))) ?_
    rintro _ z0 ⟨po,co,rfl,j6,pv,cv,l0,e9,h9,k0,hM⟩
    refine⟨(Yh l0 e9),?_⟩
    have c5:=Kn.obj hM.m3
    refine ymuV (.o [] 8) (↑(Zo ((Zd l s.top 1 fuel).es.getD i Zj).2.1):Int) (.slice po ((Jl l s.data fuel (↑(Zo ((Zd l s.top 1 fuel).es.getD i Zj).2.1):Int)).length) co) (.t B [114,100]) Tryz.underlying110 (Sw Tryz.underlying3) hM.m3 f6 fun y5 g5 y1=>⟨Uf c5 g5 hM.g3,?_⟩
    have v8:=(((((((((hR.below a3.below).only (Ze.of_upd (T:=[123]) b9 a3.blk (by decide)) (by decide)).below a2).below (Za a9)).below a1).below (Za b5)).only (Xj (T:=[]) a5 a8) (by decide)).below (Za d1)).only e9 (by decide)).only (Xj (T:=[]) c5 g5) (by decide)
    have o5:=Xz j6 c5 g5
    have j8:=Ks.snoc v8 o5
    refine xwm 4 ((i:Int)+1) (↑(i+1):Int) ?_
    have n3:=Yv h9 c5 g5
    have p6:=Xz k0 c5 g5
    have hM:=hM.put3 g5 y1
    have c2:=n3
    have c3:=p6
    rw[Eg] at c2 c3
    have k5:=g5.below (h0.trans l0) hM.g3
    have s2:=((((((((Ze.upd_new (d7.trans (Ze.of_below a3.below)) b9 q8).trans (Ze.of_below a2)).trans (Ze.of_below (Za a9))).trans (Ze.of_below a1)).trans (Ze.of_below (Za b5))).trans (Xj a5 a8)).trans (Ze.of_below (Za d1))).trans e9).trans (Xj c5 g5)
    have e5:=Yv (((Yv (((((b9.blkT (b8.below a3.below) a3.blk (by decide)).below a2).below (Za a9)).below a1).below (Za b5)) a5 a8).below (Za d1)).only e9 (by decide)) c5 g5
    have j2:=Xz (Zn (Zb (Xz (Zb (Zb (Zb (Zb (b9.own3 (Zb c1 a3.below) b6) a2) (Za a9)) a1) (Za b5)) a5 a8) (Za d1)) e9 (by decide)) c5 g5
    have k7:=(i9.only e9 (by decide)).only (Xj (T:=[]) c5 g5) (by decide)
    exact ze 2 (i0 _ _ _ ⟨i+1,_,_,_,_,rfl,rfl,k5,s2,c2,e5,c3,j2,(by rw[Hm (by omega) b3];exact hM),k7,j8,by omega,by rw[List.map_append,d8,Bd (by omega) b3 hsm];rfl,Cn (by omega) a6 b3 hsm⟩ (by omega))
   have o8:=Zb (Xz (Zb (Zb h7 a1) (Za b5)) a5 a8) (Za d1)
   have o3:=hM.below (Za d1)
   have i5:=(((((((hI.below a3.below).only (Ze.of_upd (T:=[123]) b9 a3.blk (by decide)) (by decide)).below a2).below (Za a9)).below a1).below (Za b5)).only (Xj (T:=[]) a5 a8) (by decide)).below (Za d1)
   have g6:=a7.below (Za d1)
   have g4:=blB (a8.below (blB (blB d2 hBw a1) hBw (Za b5)) d4.g2) hBw (Za d1)
   refine yc 0 (args:=#[P0 bx,V0 (↑(Zo ((Zd l s.top 1 fuel).es.getD i Zj).2.1):Int)]) (.t B [114,100]) (Gh B bx _ _ (D++(Zd l s.top 1 fuel).fs.map (Xk 3)++G) ra rb rc _ _ _ pi ni ci Bi b l s fuel (↑(Zo ((Zd l s.top 1 fuel).es.getD i Zj).2.1):Int) _ g6 o8 o3 i5 hfu (fun W hb=>hg W (Below.trans g4 hb)) hBb (Nat.le_trans hBw g4.size) (by first|omega|(simp;omega))) ?_
   rintro _ z1 ⟨po,co,rfl,j6,pv,cv,q6,e6,h9,k0,hM⟩
   refine⟨(Yh q6 e6),?_⟩
   refine xb (.o [] 3) 16 h9 ?_
   have c7:=Kn.obj hM.m3
   refine ymuV (.o [] 8) (↑(Zo ((Zd l s.top 1 fuel).es.getD i Zj).2.1):Int) (.slice po ((Jl l s.data fuel (↑(Zo ((Zd l s.top 1 fuel).es.getD i Zj).2.1):Int)).length) co) (.t B [114,100]) Tryz.underlying110 (Sw Tryz.underlying3) hM.m3 f6 fun y9 g1 x8=>⟨Uf c7 g1 hM.g3,?_⟩
   have t7:=(((((((((hR.below a3.below).only (Ze.of_upd (T:=[123]) b9 a3.blk (by decide)) (by decide)).below a2).below (Za a9)).below a1).below (Za b5)).only (Xj (T:=[]) a5 a8) (by decide)).below (Za d1)).only e6 (by decide)).only (Xj (T:=[]) c7 g1) (by decide)
   have k9:=Xz j6 c7 g1
   have j8:=Ks.snoc t7 k9
   refine xwm 4 ((i:Int)+1) (↑(i+1):Int) ?_
   have n4:=Yv h9 c7 g1
   have q5:=Xz k0 c7 g1
   have hM:=hM.put3 g1 x8
   have c2:=n4
   have c3:=q5
   rw[Eg] at c2 c3
   have l4:=g1.below (g4.trans q6) hM.g3
   have t6:=((((((((Ze.upd_new (d7.trans (Ze.of_below a3.below)) b9 q8).trans (Ze.of_below a2)).trans (Ze.of_below (Za a9))).trans (Ze.of_below a1)).trans (Ze.of_below (Za b5))).trans (Xj a5 a8)).trans (Ze.of_below (Za d1))).trans e6).trans (Xj c7 g1)
   have f1:=Yv (((Yv (((((b9.blkT (b8.below a3.below) a3.blk (by decide)).below a2).below (Za a9)).below a1).below (Za b5)) a5 a8).below (Za d1)).only e6 (by decide)) c7 g1
   have j5:=Xz (Zn (Zb (Xz (Zb (Zb (Zb (Zb (b9.own3 (Zb c1 a3.below) b6) a2) (Za a9)) a1) (Za b5)) a5 a8) (Za d1)) e6 (by decide)) c7 g1
   have q4:=(i5.only e6 (by decide)).only (Xj (T:=[]) c7 g1) (by decide)
   exact ze 2 (i0 _ _ _ ⟨i+1,_,_,_,_,rfl,rfl,l4,t6,c2,f1,c3,j5,(by rw[Hm (by omega) b3];exact hM),q4,j8,by omega,by rw[List.map_append,d8,Bd (by omega) b3 hsm];rfl,Cn (by omega) a6 b3 hsm⟩ (by omega))
  refine⟨(Yh a1 f4),?_⟩
  refine xwm 8 ((i:Int)+1) (↑(i+1):Int) ?_
  have c2:=w2
  have c3:=s1
  rw[Eg] at c2 c3
  have p5:=d2.trans a1
  have r1:=(((Ze.upd_new (d7.trans (Ze.of_below a3.below)) b9 q8).trans (Ze.of_below a2)).trans (Ze.of_below (Za a9))).trans f4
  have f0:=(((b9.blkT (b8.below a3.below) a3.blk (by decide)).below a2).below (Za a9)).only f4 (by decide)
  have j4:=Zn (Zb (Zb (b9.own3 (Zb c1 a3.below) b6) a2) (Za a9)) f4 (by decide)
  have l9:=((((hI.below a3.below).only (Ze.of_upd (T:=[123]) b9 a3.blk (by decide)) (by decide)).below a2).below (Za a9)).only f4 (by decide)
  have v0:=((((hR.below a3.below).only (Ze.of_upd (T:=[123]) b9 a3.blk (by decide)) (by decide)).below a2).below (Za a9)).only f4 (by decide)
  exact ze 2 (i0 _ _ _ ⟨i+1,_,_,_,_,rfl,rfl,p5,r1,c2,f0,c3,j4,(by rw[Rj (by omega) b3];exact hM),l9,v0,by omega,(d8.trans (Zck (by omega) b3).symm),Zaa (by omega) a6 b3⟩ (by omega))
 refine xe 4 (.tuple #[]) ?_
 obtain rfl:i=(Zd l s.top 1 fuel).es.length:=by omega
 have r3:=f9
 have t1:=ho
 have p3:=hM
 rw[List.drop_eq_nil_of_le (Nat.le_refl _)] at a6
 rw[List.take_of_length_le (Nat.le_refl _)] at p3 d8
 obtain rfl:G=Gx l s.data fuel (Zd l s.top 1 fuel).es []:=by rw[←a6];exact(List.append_nil _).symm
 exact⟨_,_,rfl,⟨_,_,f8,d7,r3,t1,p3⟩,hR,d8⟩
end Go.Proofs.YtegcamkgeacjfaaGreatDoor
namespace Go.Proofs.YtegcamkgeacjfaaGreatDoor
set_option maxHeartbeats 8000000
set_option maxRecDepth 100000
open Go.Shelf
set_option linter.unusedVariables false
def Dz:Go.Shelf.Ren:=⟨fun|189=>206|125=>262|257=>261|128=>292|129=>293|294=>283|295=>284|296=>285|297=>286|298=>287|299=>288|216=>289|300=>290|301=>291|328=>308|329=>309|330=>310|331=>311|332=>312|215=>313|343=>317|n=>n,fun|28=>33|3=>3|46=>335|0=>0|51=>385|53=>334|4=>4|183=>403|182=>402|131=>210|5=>5|9=>9|218=>421|222=>275|228=>429|229=>155|n=>n,fun|n=>n⟩
theorem Fi:Go.Proofs.Lays.n189 Tryz.prog Dz:={
 mixed:=by kernel_rfl
 f125:=Tryz.func262.trans (congrArg some (by kernel_rfl))
 f128:=Tryz.func292.trans (congrArg some (by kernel_rfl))
 f129:=Tryz.func293.trans (congrArg some (by kernel_rfl))
 f189:=Tryz.func206.trans (congrArg some (by kernel_rfl))
 f215:=Tryz.func313.trans (congrArg some (by kernel_rfl))
 f216:=Tryz.func289.trans (congrArg some (by kernel_rfl))
 f257:=Tryz.func261.trans (congrArg some (by kernel_rfl))
 f294:=Tryz.func283.trans (congrArg some (by kernel_rfl))
 f295:=Tryz.func284.trans (congrArg some (by kernel_rfl))
 f296:=Tryz.func285.trans (congrArg some (by kernel_rfl))
 f297:=Tryz.func286.trans (congrArg some (by kernel_rfl))
 f298:=Tryz.func287.trans (congrArg some (by kernel_rfl))
 f299:=Tryz.func288.trans (congrArg some (by kernel_rfl))
 f300:=Tryz.func290.trans (congrArg some (by kernel_rfl))
 f301:=Tryz.func291.trans (congrArg some (by kernel_rfl))
 f328:=Tryz.func308.trans (congrArg some (by kernel_rfl))
 f329:=Tryz.func309.trans (congrArg some (by kernel_rfl))
 f330:=Tryz.func310.trans (congrArg some (by kernel_rfl))
 f331:=Tryz.func311.trans (congrArg some (by kernel_rfl))
 f332:=Tryz.func312.trans (congrArg some (by kernel_rfl))
 f343:=Tryz.func317.trans (congrArg some (by kernel_rfl))
 t0:=Tryz.underlying0
 a0:=Tryz.isAgg0
 z0:=Tryz.sizeOf0
 v0:=Tryz.zeroValue0
 t3:=Tryz.underlying3
 a3:=Tryz.isAgg3
 z3:=Tryz.sizeOf3
 v3:=Tryz.zeroValue3
 t4:=Tryz.underlying4
 a4:=Tryz.isAgg4
 z4:=Tryz.sizeOf4
 v4:=Tryz.zeroValue4
 t5:=Tryz.underlying5
 a5:=Tryz.isAgg5
 z5:=Tryz.sizeOf5
 v5:=Tryz.zeroValue5
 t9:=Tryz.underlying9
 a9:=Tryz.isAgg9
 z9:=Tryz.sizeOf9
 v9:=Tryz.zeroValue9
 t28:=Tryz.underlying33
 a28:=Tryz.isAgg33
 z28:=Tryz.sizeOf33
 v28:=Tryz.zeroValue33
 t46:=Tryz.underlying335
 a46:=Tryz.isAgg335
 z46:=Tryz.sizeOf335
 v46:=Tryz.zeroValue335
 t51:=Tryz.underlying385
 a51:=Tryz.isAgg385
 z51:=Tryz.sizeOf385
 v51:=Tryz.zeroValue385
 t53:=Tryz.underlying334
 a53:=Tryz.isAgg334
 z53:=Tryz.sizeOf334
 v53:=Tryz.zeroValue334
 t131:=Tryz.underlying210
 a131:=Tryz.isAgg210
 z131:=Tryz.sizeOf210
 v131:=Tryz.zeroValue210
 t182:=Tryz.underlying402
 a182:=Tryz.isAgg402
 z182:=Tryz.sizeOf402
 v182:=Tryz.zeroValue402
 t183:=Tryz.underlying403
 a183:=Tryz.isAgg403
 z183:=Tryz.sizeOf403
 v183:=Tryz.zeroValue403
 t218:=Tryz.underlying421
 a218:=Tryz.isAgg421
 z218:=Tryz.sizeOf421
 v218:=Tryz.zeroValue421
 t222:=Tryz.underlying275
 a222:=Tryz.isAgg275
 z222:=Tryz.sizeOf275
 v222:=Tryz.zeroValue275
 t228:=Tryz.underlying429
 a228:=Tryz.isAgg429
 z228:=Tryz.sizeOf429
 v228:=Tryz.zeroValue429
 t229:=Tryz.underlying155
 a229:=Tryz.isAgg155
 z229:=Tryz.sizeOf155
 v229:=Tryz.zeroValue155 }
open Go.Sort Go.RowKit in
theorem Pe(blk off cap:Nat)(zs:List Int)(w:World)(hH:Holds V0 w blk off zs.toArray)(hblk:blk<w.heap.size)(hsz:zs.length<4611686018427387904) :
 C0 206 #[.slice (some ⟨blk,off,none⟩) zs.length cap] w fun e w' =>
  e=.returned (.tuple #[])∧∃ n os,w'=grow (putRow V0 (Sort.ahead w n) blk off (zs.mergeSort fun x y=>decide (x≤y)).toArray) os:=Any.slices_Sort_int Fi blk off cap zs w hH hblk hsz
open Go.RowKit Go.Sort in
theorem Hw(p:O0)(cap:Nat)(w:World) :
 C0 206 #[.slice p 0 cap] w fun e w'=>e=.returned (.tuple #[])∧w'=w:=Any.slices_Sort_int_none Fi p cap w
def Gy:Go.Shelf.Ren:=⟨fun|43=>207|n=>n,fun|22=>33|23=>3|3=>3|4=>4|0=>0|n=>n,fun|n=>n⟩
theorem Hg:Go.Proofs.SlLaysN.n43 Tryz.prog Gy:={
 mixed:=by kernel_rfl
 f43:=⟨Tryz.f207.name,by decide,Tryz.func207.trans (congrArg some (by kernel_rfl))⟩
 t0:=Tryz.underlying0
 a0:=Tryz.isAgg0
 z0:=Tryz.sizeOf0
 v0:=Tryz.zeroValue0
 t3:=Tryz.underlying3
 a3:=Tryz.isAgg3
 z3:=Tryz.sizeOf3
 v3:=Tryz.zeroValue3
 t4:=Tryz.underlying4
 a4:=Tryz.isAgg4
 z4:=Tryz.sizeOf4
 v4:=Tryz.zeroValue4
 t22:=Tryz.underlying33
 a22:=Tryz.isAgg33
 z22:=Tryz.sizeOf33
 v22:=Tryz.zeroValue33
 t23:=Tryz.underlying3
 a23:=Tryz.isAgg3
 z23:=Tryz.sizeOf3
 v23:=Tryz.zeroValue3
 i23:=by kernel_rfl }
open Go.RowKit Go.Lib Go.Sort in
theorem Us(blk off cap:Nat)(zs:List Int)(w:World)(hH:Holds V0 w blk off zs.toArray)(hsz:zs.length≤9223372036854775807)(hcap:zs.length≤cap) :
 C0 207 #[.slice (some ⟨blk,off,none⟩) zs.length cap] w fun e w'=>e=.returned (.slice (some ⟨blk,off,none⟩) (Lib.compact zs).length cap)∧∃ q,w'=putRow V0 (Sort.ahead w q) blk off (Lib.compact zs++List.replicate (zs.length-(Lib.compact zs).length) 0).toArray:=AnyG.slices_Compact_int Hg blk off cap zs w hH hsz hcap
open Go.RowKit Go.Lib Go.Sort in
theorem Ji(a:O0)(cap:Nat)(w:World) :
 C0 207 #[.slice a 0 cap] w fun e w'=>e=.returned (.slice a 0 cap)∧w'=w:=AnyG.slices_Compact_int_empty Hg a cap w
end Go.Proofs.YtegcamkgeacjfaaGreatDoor
namespace Go.Proofs.YtegcamkgeacjfaaGreatDoor
set_option maxHeartbeats 8000000
set_option maxRecDepth 100000
open Go.RowKit Go.Extern.Stop Go.Stop Go.Extern
set_option linter.unusedVariables false
attribute [local irreducible] wpList wpAnyH Code.wp Oper.wp Go
open Go.Sort in
theorem sort_row{base:Nat}{p:O0}{c:Nat}{L:List Int}(w:World)(hB:base≤w.heap.size)(hl:L.length≤1000000)(ho:w.ownsRow base 3 1 (.slice p L.length c) L.length (L.map V0)):C0 206 #[.slice p L.length c] w (fun e w'=>∃ (u:Value) (L2:List Int),e=.returned u∧L2.length=L.length∧L2.Perm L∧L2.Pairwise (·≤·)∧Below base w w'∧w.grownBy w' (Value.slice p L.length c).ownBlock∧w'.ownsRow base 3 1 (.slice p L.length c) L.length (L2.map V0)):=by
  rcases ho.2 with ⟨h1,h2⟩|⟨g,a7,a6,hv,hb,hh,a3,a2,a1,a5⟩
  · have hL:L=[]:=List.eq_nil_of_length_eq_zero h2
    subst hL
    refine(Hw p c w).mono ?_
    rintro e W ⟨rfl,rfl⟩
    exact⟨_,[],rfl,rfl,List.Perm.refl _,.nil,Below.refl _ _,⟨rfl,rfl,rfl,Nat.le_refl _,fun _ _ _=>rfl⟩,ho⟩
  · simp only[Value.slice.injEq] at hv
    obtain⟨rfl,_,rfl⟩:=hv
    have hH:=holds_of_blockI hh (by simpa using a5)
    have a4:=(Array.getElem?_eq_some_iff.1 hh).1
    refine(Pe g 0 _ L w hH a4 (by omega)).mono ?_
    rintro e W ⟨rfl,n,os,rfl⟩
    have a0:(L.mergeSort fun x y=>decide (x≤y)).length=L.length:=List.length_mergeSort _
    have hg:=grownBy_sortedI (w:=w) (g:=g) (n:=n) (os:=os) (L.mergeSort fun x y=>decide (x≤y)).toArray
    refine⟨_,L.mergeSort fun x y=>decide (x≤y),rfl,a0,List.mergeSort_perm _ _,?_,(Below.refl base w).grown hg hB (fun k e=>by cases e;exact hb),hg,ownsRow_sortedI a0 hb hh a3 a2 a1⟩
    have:=List.pairwise_mergeSort (le:=fun x y:Int=>decide (x≤y)) (fun a b c h1 h2=>by simp at h1 h2 ⊢;omega) (fun a b=>by simp;omega) L
    exact this.imp fun h=>of_decide_eq_true h
theorem Wn(zs:List Int)(hs:zs.Pairwise (·≤·)):∀ m,m≤zs.length→(Lib.compactUpTo zs.toArray m).Pairwise (·<·)∧(∀ z,z∈Lib.compactUpTo zs.toArray m↔z∈zs.take m)
  | 0,_=>⟨by simp[Lib.compactUpTo],fun z=>by simp[Lib.compactUpTo]⟩
  | m+1,h=>by
    obtain⟨h1,h2⟩:=Wn zs hs m (by omega)
    have hm:zs.toArray[m]! = zs[m]'(by omega):=by simp[show m<zs.length by omega]
    rw[Lib.compactUpTo_succ,List.take_succ_eq_append_getElem (show m<zs.length by omega),hm]
    have a2:zs.toArray[m-1]! = zs[m-1]'(by omega):=by simp[show m-1<zs.length by omega]
    have a5:∀ z∈zs.take m,z≤zs[m]'(by omega):=fun z hz=>by
      obtain⟨j,hj,rfl⟩:=List.mem_take_iff_getElem.1 hz
      exact List.pairwise_iff_getElem.1 hs j m (by omega) (by omega) (by omega)
    by_cases hk:Lib.keeps zs.toArray m=true
    · rw[if_pos hk]
      refine⟨List.pairwise_append.2 ⟨h1,by simp,fun a ha b hb=>?_⟩,fun z=>by rw[List.mem_append,List.mem_append,h2]⟩
      obtain rfl:=List.mem_singleton.1 hb
      have a4:=(h2 a).1 ha
      obtain⟨j,hj,rfl⟩:=List.mem_take_iff_getElem.1 a4
      have a3:0<m:=by omega
      have a0:zs[m-1]'(by omega)≠zs[m]'(by omega):=by
        have a1:=(of_decide_eq_true hk).resolve_left (by omega)
        rw[hm,a2] at a1
        exact fun e=>a1 e.symm
      have a6:zs[j]'(by omega)≤zs[m-1]'(by omega):=by
        by_cases e:j=m-1
        · subst e;exact Int.le_refl _
        · exact List.pairwise_iff_getElem.1 hs j (m-1) (by omega) (by omega) (by omega)
      have:=List.pairwise_iff_getElem.1 hs (m-1) m (by omega) (by omega) (by omega)
      omega
    · rw[if_neg hk,List.append_nil]
      refine⟨h1,fun z=>?_⟩
      rw[h2,List.mem_append,List.mem_singleton]
      constructor
      · exact .inl
      · rintro(h|rfl)
        · exact h
        · have a1:=fun q=>hk (decide_eq_true q)
          have a3:m≠0:=fun e=>a1 (.inl e)
          have a0:zs[m-1]'(by omega)=zs[m]'(by omega):=by
            by_cases e:zs[m-1]'(by omega)=zs[m]'(by omega)
            · exact e
            · exact absurd (.inr (by rw[hm,a2];exact fun q=>e q.symm)) a1
          rw[←a0]
          exact List.mem_take_iff_getElem.2 ⟨m-1,by omega,rfl⟩
open Go.Sort in
theorem Za8{base:Nat}{p:O0}{c:Nat}{L:List Int}(w:World)(hB:base≤w.heap.size)(hl:L.length≤1000000)(hs:L.Pairwise (·≤·))(ho:w.ownsRow base 3 1 (.slice p L.length c) L.length (L.map V0)):C0 207 #[.slice p L.length c] w (fun e w'=>∃ (q:O0) (d:Nat) (L2:List Int),e=.returned (.slice q L2.length d)∧L2.Pairwise (·<·)∧(∀ z,z∈L2↔z∈L)∧Below base w w'∧w.grownBy w' (Value.slice p L.length c).ownBlock∧w'.ownsRow base 3 1 (.slice q L2.length d) L2.length (L2.map V0)):=by
  rcases ho.2 with ⟨h1,h2⟩|⟨g,a9,a8,hv,hb,hh,a1,a4,a3,a6⟩
  · have hL:L=[]:=List.eq_nil_of_length_eq_zero h2
    subst hL
    refine(Ji p c w).mono ?_
    rintro e W ⟨rfl,rfl⟩
    exact⟨p,c,[],rfl,.nil,fun _=>Iff.rfl,Below.refl _ _,⟨rfl,rfl,rfl,Nat.le_refl _,fun _ _ _=>rfl⟩,ho⟩
  · simp only[Value.slice.injEq] at hv
    obtain⟨rfl,_,rfl⟩:=hv
    have hH:=holds_of_blockI hh (by simpa using a6)
    have a7:=(Array.getElem?_eq_some_iff.1 hh).1
    refine(Us g 0 _ L w hH (by omega) a1).mono ?_
    rintro e W ⟨rfl,n,rfl⟩
    have a2:=Wn L hs L.length (Nat.le_refl _)
    have a5:(Lib.compact L).length≤L.length:=by unfold Lib.compact Lib.compactUpTo;rw[List.length_map];exact Nat.le_trans (List.length_filter_le _ _) (by simp)
    have a0:(Lib.compact L++List.replicate (L.length-(Lib.compact L).length) 0).length=L.length:=by rw[List.length_append,List.length_replicate];omega
    have hg:=grownBy_sortedI (w:=w) (g:=g) (n:=n) (os:=#[]) (Lib.compact L++List.replicate (L.length-(Lib.compact L).length) 0).toArray
    have hw:=ownsRow_sortedI (os:=#[]) (n:=n) a0 hb hh a1 a4 a3
    rw[grow_empty] at hg hw
    refine⟨_,_,Lib.compact L,rfl,a2.1,fun z=>(a2.2 z).trans (by rw[List.take_length]),(Below.refl base w).grown hg hB (fun k e=>by cases e;exact hb),hg,?_⟩
    have:=own_cut hw a5 rfl
    rw[List.map_append,List.take_append_of_le_length (by simp),List.take_of_length_le (by simp)] at this
    exact this
end Go.Proofs.YtegcamkgeacjfaaGreatDoor
namespace Go.Proofs.YtegcamkgeacjfaaGreatDoor
set_option maxHeartbeats 8000000
set_option maxRecDepth 100000
open Go.RowKit Go.Extern.Stop Go.Stop Go.Extern
set_option linter.unusedVariables false
attribute [local irreducible] wpList wpAnyH Code.wp Oper.wp Go
def IdsP(kd kr:List (Int×Value))(w:World)(e:Ending)(w':World):Prop :=
  ∃ (q:O0) (c:Nat) (L:List Int),e=.returned (.slice q L.length c)∧B0 w w'∧w'.ownsRow w.heap.size 3 1 (.slice q L.length c) L.length (L.map V0)∧L.Pairwise (·<·)∧∀ z,z∈L↔z∈kd.map Prod.fst∨z∈kr.map Prod.fst
theorem Zcl{kv:List (Int×Value)}{out:List Int}(h:out.Perm (kv.map Prod.fst)):out.length=kv.length:=by rw[h.length_eq,List.length_map]
theorem Ic{base:Nat}{p:O0}{c n:Nat}{L:List Int}(w:World)(hn:L.length=n)(hB:base≤w.heap.size)(hl:L.length≤1000000)(hs:L.Pairwise (·≤·))(ho:w.ownsRow base 3 1 (.slice p L.length c) L.length (L.map V0)):C0 207 #[.slice p n c] w (fun e w'=>∃ (q:O0) (d:Nat) (L2:List Int),e=.returned (.slice q L2.length d)∧L2.Pairwise (·<·)∧(∀ z,z∈L2↔z∈L)∧Below base w w'∧w.grownBy w' (Value.slice p L.length c).ownBlock∧w'.ownsRow base 3 1 (.slice q L2.length d) L2.length (L2.map V0)):=by
  subst hn;exact Za8 w hB hl hs ho
theorem ids_mem{kd kr:List (Int×Value)}{o1 out L2 L3:List Int}(h1:o1.Perm (kd.map Prod.fst))(h2:out.Perm (kr.map Prod.fst))(h3:L2.Perm (o1++out))(h4:∀ z,z∈L3↔z∈L2)(z:Int):z∈L3↔z∈kd.map Prod.fst∨z∈kr.map Prod.fst:=by
 rw[h4,h3.mem_iff,List.mem_append,h1.mem_iff,h2.mem_iff]
theorem Zay(B bx b n c:Nat)(p:O0)(s:Sup)(fuel:Int)(ra rb rc:Nat)(kd kr km:List (Int×Value))(w:World)(hk:Blk w bx [.slice p n c,P0 b,V0 s.tx,V0 s.time,V0 s.unit,V0 s.data,V0 s.blocks,V0 s.top,V0 s.details,V0 s.dslots,V0 s.dover,V0 s.mindex,V0 s.mover,V0 fuel,.map (some ra),.map (some rb),.map (some rc)] 114)(hM:Maps3 B ra rb rc kd kr km w)(hl1:kd.length≤100000)(hl2_:kr.length≤100000) :
 C0 113 #[P0 bx] w (IdsP kd kr w):=by
 refine zin 36 Tryz.func113 ?_
 refine xb 16 14 hk ?_
 refine xrgV 0 Tryz.underlying108 hM.m1 fun f4 W1 n1=>?_
 have g1:=n1.ge (B1 w)
 have e8:=hM.below n1.below
 have d5:=hk.below n1.below
 refine zl 3 36 (fun zm d0 V=>∃ (o1:List Int) (pz:O0) (cz:Nat),d0=[(0,P0 bx),(2,S0),(3,.slice pz o1.length cz),(10,P0 f4)]∧zm=kd.length-o1.length∧B0 w V∧Blk V bx ([.slice p n c,P0 b,V0 s.tx,V0 s.time,V0 s.unit,V0 s.data,V0 s.blocks,V0 s.top,V0 s.details,V0 s.dslots,V0 s.dover,V0 s.mindex,V0 s.mover,V0 fuel,.map (some ra),.map (some rb),.map (some rc)]) 114∧V.ownsRow w.heap.size 3 1 (.slice pz o1.length cz) o1.length (o1.map V0)∧Vd V0 V ra f4 kd o1∧Maps3 B ra rb rc kd kr km V∧o1.length≤kd.length) ⟨[],none,0,rfl,rfl,n1.below,d5,World.ownsRow_nil _ _ _ _,n1.iter,e8,Nat.zero_le _⟩ ?_
 rintro _ _ W2 ⟨o1,pz,cz,rfl,rfl,b0,a2,ho,d3,hM,h8⟩ J2 h0 r2
 have i0:=Vd.obj d3
 refine xnxV 2 (un:=unI) (fun _=>rfl) d3 (fun f3=>?_) (fun k3 v3 X3 W3 h7 h4 c4 u3 i3 e3 e9=>?_)
 ·refine xb 16 15 a2 ?_
  refine xrgV 0 Tryz.underlying109 hM.m2 fun f1 W4 n4=>?_
  have g4:=n4.ge b0
  have d6:=Zb ho n4.below
  refine xv1 3 3 (show(.slice pz o1.length cz:Value)=.slice pz ((o1++([]:List Int)).length) cz from(by rw[List.append_nil])) ?_
  have e5:=hM.below n4.below
  have e7:=bln b0 n4.below
  have a4:=a2.below n4.below
  refine zl 0 36 (fun zm d0 V=>∃ (a0:List Int) (pz:O0) (cz:Nat),d0=[(2,S0),(3,.slice pz ((o1++a0).length) cz),(23,P0 f1)]∧zm=kr.length-a0.length∧B0 w V∧Blk V bx ([.slice p n c,P0 b,V0 s.tx,V0 s.time,V0 s.unit,V0 s.data,V0 s.blocks,V0 s.top,V0 s.details,V0 s.dslots,V0 s.dover,V0 s.mindex,V0 s.mover,V0 fuel,.map (some ra),.map (some rb),.map (some rc)]) 114∧V.ownsRow w.heap.size 3 1 (.slice pz (o1++a0).length cz) (o1++a0).length ((o1++a0).map V0)∧Vd V0 V rb f1 kr a0∧Maps3 B ra rb rc kd kr km V∧a0.length≤kr.length) ⟨[],_,_,rfl,rfl,e7,a4,(by rw[List.append_nil];exact d6),n4.iter,e5,Nat.zero_le _⟩ ?_
  rintro _ _ W5 ⟨a0,pz,cz,rfl,rfl,b1,c2,ho,a1,hM,g2⟩ J5 h3 r5
  have i1:=Vd.obj a1
  refine xnxV 2 (un:=unI) (fun _=>rfl) a1 (fun f6=>?_) (fun k6 v6 X6 W6 f7 g5 c5 u6 i6 e6 f2=>?_)
  ·have h6:=Zcl f3
   have h2:=Zcl f6
   have h1:=b1.size
   refine xc 13 (args:=#[.slice pz ((o1++a0).length) cz]) (sort_row (L:=o1++a0) _ h1 (by rw[List.length_append];omega) ho) ?_
   rintro _ W7 ⟨u9,L2,rfl,c9,d8,c6,f9,i5,g6⟩
   have b5:=b1.trans f9
   have g8:=b5.size
   have f5:=g6
   rw[←c9] at f5
   refine xc 5 (args:=#[.slice pz ((o1++a0).length) cz]) (Ic (L:=L2) _ c9 g8 (by rw[c9,List.length_append];omega) c6 f5) ?_
   rintro _ W8 ⟨q9,d9,L3,rfl,c7,e4,h5,i8,g7⟩
   have d2:=b5.trans h5
   exact xe 4 (.slice q9 L3.length d9) ⟨_,_,L3,rfl,d2,g7,c7,ids_mem f3 f6 d8 e4⟩
  refine xenV 10 e6 ?_
  refine xbs 7 1 [V0 k6] 3 fun b9 W9 n9=>?_
  have c3:=u6.below (bln b1 c5) g4
  have g9:=n9.ge c3
  have b8:=Xz (Zb ho c5) f2 u6
  have f0:=Zx b8 n9
  have a5:=Zb b8 n9.below
  have b7:=bln c3 n9.below
  refine xbi 0 fun _ _ _ _ zJ zQ zo zx zy zK=>Zw (m:=1) (news:=[V0 k6]) (V0 0) 1 8 (((o1++a0)++[k6]).length) ((((o1++a0)++[k6]).map V0)) zo Tryz.underlying33 (by kernel_rfl) rfl (by decide) zx a5 zy (n9.blk.sl 1 1 (by decide) (by decide)) rfl (by simp[Value.oneCell']) (by unfold maxLen;simp only[List.length_append];omega) (by simp only[List.length_append];omega) b7.size ((List.length_append (bs:=[_])).symm) (by simp) fun b4 c1 i9 g3 a9 e0=>?_
  refine zK _ _ ?_
  refine xv1 3 3 (show(.slice b4 (((o1++a0)++[k6]).length) c1:Value)=.slice b4 ((o1++(a0++[k6])).length) c1 from(by rw[List.append_assoc])) ?_
  have d1:=(i6.below n9.below).grown a9 a5
  have e2:=b7.trans e0
  have a7:=((Yv (c2.below c5) f2 u6).below n9.below).grown a9 a5 (by decide)
  have hM:=((hM.iter a1 c5 u6).below n9.below).grown a9 a5
  refine ze 0 (h3 _ _ _ ⟨a0++[k6],_,_,rfl,rfl,e2,a7,(by rw[←List.append_assoc];exact g3),d1,hM,by simp only[List.length_append,List.length_singleton];omega⟩ ?_)
  simp only[List.length_append,List.length_singleton]
  omega
 refine xenV 10 e3 ?_
 refine xbs 7 1 [V0 k3] 3 fun j0 i7 a8=>?_
 have b3:=u3.below (bln b0 c4) g1
 have i2:=a8.ge b3
 have c0:=Xz (Zb ho c4) e9 u3
 have d7:=Zx c0 a8
 have a6:=Zb c0 a8.below
 have b6:=bln b3 a8.below
 refine xbi 0 fun _ _ _ _ zJ zQ zo zx zy zK=>Zw (m:=1) (news:=[V0 k3]) (V0 0) 1 8 ((o1++[k3]).length) (((o1++[k3]).map V0)) zo Tryz.underlying33 (by kernel_rfl) rfl (by decide) zx a6 zy (a8.blk.sl 1 1 (by decide) (by decide)) rfl (by simp[Value.oneCell']) (by unfold maxLen;omega) (by omega) b6.size ((List.length_append (bs:=[_])).symm) (by simp) fun h9 f8 i4 g0 b2 d4=>?_
 refine zK _ _ ?_
 have e1:=(i3.below a8.below).grown b2 a6
 have c8:=b6.trans d4
 have a3:=((Yv (a2.below c4) e9 u3).below a8.below).grown b2 a6 (by decide)
 have hM:=((hM.iter d3 c4 u3).below a8.below).grown b2 a6
 refine ze 3 (h0 _ _ _ ⟨o1++[k3],_,_,rfl,rfl,c8,a3,g0,e1,hM,by simp only[List.length_append,List.length_singleton];omega⟩ ?_)
 simp only[List.length_append,List.length_singleton]
 omega
abbrev Zv:=Dv×O0×Nat
def zvD:Zv:=(((0,0,0,0),[]),none,0)
def Lg(z:Zv):List Value:=[V0 z.1.1.1,V0 z.1.1.2.1,V0 z.1.1.2.2.1,V0 z.1.1.2.2.2,.slice z.2.1 z.1.2.length z.2.2]
theorem Bh(z:Zv):(Lg z).length=5:=rfl
structure DevsR(w:World)(p:Option Addr)(c:Nat)(Z:List Zv):Prop where
 row:Sts Lg w (.slice p Z.length c) Z
 each:∀ i,i<Z.length→Sts Hs w (.slice (Z.getD i zvD).2.1 (Z.getD i zvD).1.2.length (Z.getD i zvD).2.2) (Z.getD i zvD).1.2
theorem DevsR.below{w W:World}{p:O0}{c:Nat}{Z:List Zv}(h:DevsR w p c Z)(hb:B0 w W):DevsR W p c Z:=⟨h.row.below hb,fun i hi=>(h.each i hi).below hb⟩
theorem DevsR.rowN{w:World}{p:O0}{c n:Nat}{Z:List Zv}(h:DevsR w p c Z)(hn:Z.length=n):Sl w (.slice p n c) n (Z.flatMap Lg):=by subst hn;exact h.row
theorem DevsR.someN{w:World}{p:O0}{c n i:Nat}{Z:List Zv}(h:DevsR w p c Z)(hn:Z.length=n)(hi:i<n):p.isSome=true:=by subst hn;exact(Sts.cell h.row Bh zvD (k:=i) (i:=0) hi rfl).1
theorem Zfd{a:Act}{o:Oper}{p q:Operand}(x:Mp)(ho:o.op=.binOp .neq 164 p q 164)(hx:a.eval p=.agg (Hs x).toArray)(hy:a.eval q=.agg (Hs x).toArray)(V:World) :
 (execOp a.eval o).run Tryz.prog V=.ok (.value (.bool false)) V:=by
 have h1:=Tryz.underlying164
 have h2:=Tryz.underlying3
 have h4:Tryz.prog.stoodInHeld 164=false:=by kernel_rfl
 have hb:(binOp .neq 164 (.agg (Hs x).toArray) (.agg (Hs x).toArray)).run Tryz.prog V=.ok (.bool false) V:=by
  obtain⟨x0,x1,x2⟩:=x
  simp[go_sem,Program.fieldsOf,h1,h2,h4,Op.eqFields,Hs]
 have hg:=run_eqGuard_agg (P:=Tryz.prog) (w:=V) .neq 164 p q (Hs x).toArray (Hs x).toArray (by kernel_rfl)
 simp only[execOp,ho,hx,hy,Sem.run_bind,hg,Result.andThen_ok,hb]
 rfl
theorem Et(a b:O0)(ca cb:Nat)(L:List Mp)(w:World)(ha:Sts Hs w (.slice a L.length ca) L)(hb:Sts Hs w (.slice b L.length cb) L) :
 C0 125 #[.slice a L.length ca,.slice b L.length cb] w (Ret (.bool true) w):=by
 have a5:=Sl.len ha
 refine zin 26 Tryz.func125 ?_
 refine xk 15 (show(((L.length:Int) != (L.length:Int)):Bool)=false from by simp) ?_
 have hB:=Below.refl w.heap.size w
 refine zl 9 26 (fun zm a2 V=>∃ (i:Nat),a2=[(0,.slice a L.length ca),(1,.slice b L.length cb),(5,V0 (i:Int))]∧zm=L.length-((i:Int)).toNat∧B0 w V∧i≤L.length) ⟨0,rfl,rfl,hB,Nat.zero_le _⟩ ?_
 rintro _ _ W1 ⟨i,rfl,rfl,a1,hi⟩ J1 a4 r1
 refine xid 9 ((i:Int)<(L.length:Int)) (fun a3=>?_) (fun a3=>?_)
 ·refine xd 5 .z ?_
  refine xx (.e [0,1] 2) _ L.length i 3 (Sts.cell ha Lz mpD (k:=i) (i:=0) (by omega) rfl).1 ?_
  have a0:=bln a1 (Za W1)
  refine xlv (.e [] 3) (Sts.rp (k:=i) (ha.below a0) Lz mpD (by omega) (by decide)) ?_
  refine xx (.e [4,5] 6) _ L.length i 3 (Sts.cell hb Lz mpD (k:=i) (i:=0) (by omega) rfl).1 ?_
  refine xlv (.e [] 7) (Sts.rp (k:=i) (hb.below a0) Lz mpD (by omega) (by decide)) ?_
  refine xbo (.e [] 8) (t:=164) (t2:=164) (fun _ _ _ _ zo zx zy V hV=>Zfd (L.getD i mpD) zo zx zy V) ?_
  refine xwm 8 ((i:Int)+1) (↑(i+1):Int) ?_
  exact ze 2 (a4 _ _ _ ⟨i+1,rfl,rfl,a0,by omega⟩ (by omega))
 exact xe 11 (.bool true) ⟨rfl,a1⟩
theorem Ll(a b:O0)(ca cb:Nat)(d:Dv)(w:World)(ha:Sts Hs w (.slice a d.2.length ca) d.2)(hb:Sts Hs w (.slice b d.2.length cb) d.2) :
 C0 58 #[.agg #[V0 d.1.1,V0 d.1.2.1,V0 d.1.2.2.1,V0 d.1.2.2.2,.slice a d.2.length ca],.agg #[V0 d.1.1,V0 d.1.2.1,V0 d.1.2.2.1,V0 d.1.2.2.2,.slice b d.2.length cb]] w (Ret (.bool true) w):=by
 refine zin 38 Tryz.func58 ?_
 refine xa 2 [V0 d.1.1,V0 d.1.2.1,V0 d.1.2.2.1,V0 d.1.2.2.2,.slice a d.2.length ca] 61 fun b1 W1 n1=>?_
 refine xa 0 [V0 d.1.1,V0 d.1.2.1,V0 d.1.2.2.1,V0 d.1.2.2.2,.slice b d.2.length cb] 61 fun b2 W2 n2=>?_
 have a2:=n2.ne n1.blk
 have a0:=n1.blk.below n2.below
 refine xb 6 0 a0 ?_
 refine xb 1 0 n2.blk ?_
 refine xgk 2 [9,10] (show((d.1.1==d.1.1):Bool)=true from by simp) ?_
 refine xb 1 1 a0 ?_
 refine xb 1 1 n2.blk ?_
 refine xgk 3 [15,16,17] (show((d.1.2.1==d.1.2.1):Bool)=true from by simp) ?_
 refine xb 1 2 a0 ?_
 refine xb 1 2 n2.blk ?_
 refine xgk 3 [22,23,24] (show((d.1.2.2.1==d.1.2.2.1):Bool)=true from by simp) ?_
 refine xb 1 3 a0 ?_
 refine xb 1 3 n2.blk ?_
 refine xgk 3 [29,30,31] (show((d.1.2.2.2==d.1.2.2.2):Bool)=true from by simp) ?_
 refine xb 1 4 a0 ?_
 refine xb 1 4 n2.blk ?_
 have hB:=bln n1.below n2.below
 refine xr 0 (args:=#[.slice a d.2.length ca,.slice b d.2.length cb]) (Et a b ca cb d.2 _ (ha.below hB) (hb.below hB)) fun W7 a3=>?_
 have a1:=bln hB a3
 exact xe 5 (.bool true) ⟨rfl,a1⟩
theorem Ny(a b:O0)(ca cb:Nat)(d e:Dv)(w:World)(h:d=e)(ha:Sts Hs w (.slice a d.2.length ca) d.2)(hb:Sts Hs w (.slice b e.2.length cb) e.2) :
 C0 58 #[.agg #[V0 d.1.1,V0 d.1.2.1,V0 d.1.2.2.1,V0 d.1.2.2.2,.slice a d.2.length ca],.agg #[V0 e.1.1,V0 e.1.2.1,V0 e.1.2.2.1,V0 e.1.2.2.2,.slice b e.2.length cb]] w (Ret (.bool true) w):=by
 subst h;exact Ll a b ca cb d w ha hb
theorem Zdy(p q:O0)(c d n:Nat)(t u v x:Int)(Z Y:List Zv)(w:World)(hZ:Z.length=n)(hY:Y.length=n)(hZY:∀ i,i<n→(Z.getD i zvD).1=(Y.getD i zvD).1)(hP:DevsR w p c Z)(hQ:DevsR w q d Y) :
 C0 22 #[.agg #[V0 t,V0 u,V0 v,V0 x,.slice p n c],.agg #[V0 t,V0 u,V0 v,V0 x,.slice q n d]] w (Ret (.bool true) w):=by
 have c2:=Sl.len (hP.rowN hZ)
 refine zin 60 Tryz.func22 ?_
 refine xa 2 [V0 t,V0 u,V0 v,V0 x,.slice p n c] 24 fun b1 W1 n1=>?_
 refine xa 0 [V0 t,V0 u,V0 v,V0 x,.slice q n d] 24 fun b2 W2 n2=>?_
 have b8:=n2.ne n1.blk
 have a2:=n1.blk.below n2.below
 refine xb 7 0 a2 ?_
 refine xb 1 0 n2.blk ?_
 refine xgk 2 [10,11] (show((t != t):Bool)=false from by simp) ?_
 refine xb 1 1 a2 ?_
 refine xb 1 1 n2.blk ?_
 refine xgk 3 [16,17,18] (show((u != u):Bool)=false from by simp) ?_
 refine xb 1 2 a2 ?_
 refine xb 1 2 n2.blk ?_
 refine xgk 3 [23,24,25] (show((v != v):Bool)=false from by simp) ?_
 refine xb 1 3 a2 ?_
 refine xb 1 3 n2.blk ?_
 refine xgk 3 [30,31,32] (show((x != x):Bool)=false from by simp) ?_
 refine xb 1 4 a2 ?_
 refine xb 2 4 n2.blk ?_
 refine xk 5 (show(((n:Int) != (n:Int)):Bool)=false from by simp) ?_
 have b4:=(hP.below n1.below).below n2.below
 have b6:=(hQ.below n1.below).below n2.below
 have hB:=bln n1.below n2.below
 refine zl 9 60 (fun zm b9 V=>∃ (i:Nat),b9=[(2,P0 b1),(3,P0 b2),(5,V0 (i:Int))]∧zm=n-((i:Int)).toNat∧B0 w V∧Blk V b1 ([V0 t,V0 u,V0 v,V0 x,.slice p n c]) 24∧Blk V b2 ([V0 t,V0 u,V0 v,V0 x,.slice q n d]) 24∧DevsR V p c Z∧DevsR V q d Y∧i≤n) ⟨0,rfl,rfl,hB,a2,n2.blk,b4,b6,Nat.zero_le _⟩ ?_
 rintro _ _ W7 ⟨i,rfl,rfl,a9,a7,a8,hP,hQ,hi⟩ J7 c1 r7
 refine xb 5 4 a7 ?_
 refine xid 4 ((i:Int)<(n:Int)) (fun c0=>?_) (fun c0=>?_)
 ·refine xd 5 .z ?_
  have a1:=a7.below (Za W7)
  refine xb (.e [0] 1) 4 a1 ?_
  have a4:=hP.below (Za W7)
  refine xx (.e [2] 3) _ n i 5 (a4.someN hZ (i:=i) (by omega)) ?_
  refine xlv (.e [] 4) (Sts.rp (k:=i) a4.row Bh zvD (by omega) (by decide)) ?_
  have a0:=a8.below (Za W7)
  refine xb (.e [5] 6) 4 a0 ?_
  have a6:=hQ.below (Za W7)
  refine xx (.e [7] 8) _ n i 5 (a6.someN hY (i:=i) (by omega)) ?_
  refine xlv (.e [] 9) (Sts.rp (k:=i) a6.row Bh zvD (by omega) (by decide)) ?_
  refine xr (.o [] 10) (args:=#[.agg #[V0 ((Z.getD i zvD).1.1.1),V0 ((Z.getD i zvD).1.1.2.1),V0 ((Z.getD i zvD).1.1.2.2.1),V0 ((Z.getD i zvD).1.1.2.2.2),.slice ((Z.getD i zvD).2.1) ((Z.getD i zvD).1.2.length) ((Z.getD i zvD).2.2)],.agg #[V0 ((Y.getD i zvD).1.1.1),V0 ((Y.getD i zvD).1.1.2.1),V0 ((Y.getD i zvD).1.1.2.2.1),V0 ((Y.getD i zvD).1.1.2.2.2),.slice ((Y.getD i zvD).2.1) ((Y.getD i zvD).1.2.length) ((Y.getD i zvD).2.2)]]) (Ny (Z.getD i zvD).2.1 (Y.getD i zvD).2.1 (Z.getD i zvD).2.2 (Y.getD i zvD).2.2 (Z.getD i zvD).1 (Y.getD i zvD).1 _ (hZY i (by omega)) (a4.each i (by omega)) (a6.each i (by omega))) fun W9 b0=>?_
  refine xwm (.r [11] 8) ((i:Int)+1) (↑(i+1):Int) ?_
  have b5:=bln (bln a9 (Za W7)) b0
  have a5:=a1.below b0
  have a3:=a0.below b0
  have b3:=a4.below b0
  have b7:=a6.below b0
  exact ze 2 (c1 _ _ _ ⟨i+1,rfl,rfl,b5,a5,a3,b3,b7,by omega⟩ (by omega))
 exact xe 11 (.bool true) ⟨rfl,a9⟩
def Yj(B:Nat)(w:World)(Z:List Zv):Prop:=∀ i,i<Z.length→w.ownsRow B 164 3 (.slice (Z.getD i zvD).2.1 (Z.getD i zvD).1.2.length (Z.getD i zvD).2.2) (Z.getD i zvD).1.2.length ((Z.getD i zvD).1.2.flatMap Hs)
theorem Yj.nil(B:Nat)(w:World):Yj B w []:=fun i hi=>absurd hi (by simp)
theorem Yj.below{B:Nat}{w W:World}{Z:List Zv}(h:Yj B w Z)(hb:B0 w W):Yj B W Z:=fun i hi=>Zb (h i hi) hb
theorem Yj.only{B:Nat}{w W:World}{Z:List Zv}{T:List TypeId}(h:Yj B w Z)(hO:Ze T w W)(hT:T.contains 164=false):Yj B W Z:=fun i hi=>Zn (h i hi) hO hT
theorem Yj.snoc{B n:Nat}{w:World}{Z:List Zv}{d:Dv}{p:O0}{c:Nat}(h:Yj B w Z)(hn:d.2.length=n)(ho:w.ownsRow B 164 3 (.slice p n c) n (d.2.flatMap Hs)):Yj B w (Z++[(d,p,c)]):=by
 subst hn
 intro i hi
 by_cases e:i<Z.length
 ·have:=h i e
  rw[show(Z++[(d,p,c)]).getD i zvD=Z.getD i zvD from by simp[List.getD,List.getElem?_append_left e]];exact this
 ·obtain rfl:i=Z.length:=by simp at hi;omega
  rw[show(Z++[(d,p,c)]).getD Z.length zvD=(d,p,c) from by simp[List.getD]];exact ho
theorem Tt{B:Nat}{w:World}{p:O0}{c:Nat}{Z:List Zv}(hM:Yj B w Z)(ho:w.ownsRow B 61 5 (.slice p Z.length c) Z.length (Z.flatMap Lg)):DevsR w p c Z:=⟨Zh ho,fun i hi=>Zh (hM i hi)⟩
abbrev Rnd:=Option Nat×Option Nat
def both(r:Rnd):Bool:=r.1.isSome&&r.2.isSome
end Go.Proofs.YtegcamkgeacjfaaGreatDoor
namespace Go.Proofs.YtegcamkgeacjfaaGreatDoor
set_option maxHeartbeats 8000000
set_option maxRecDepth 100000
open Go.RowKit
set_option linter.unusedVariables false
theorem Dfr.put{D D2:Nat}{w:World}(h:Dfr D w)(hne:D≠D2)(o:Obj):Dfr D (w.putObj D2 o):=(World.putObj_heap_other hne).trans h
theorem Kl.pt{D:Nat}{w:World}{l:List (Option Int)}{c:Option Int}{v:Value}(h:Kl w l c v)(hK:Dfr D w)(o:Obj):Kl (w.putObj D o) l c v:=h.kept fun _ _ k=>k.put hK rfl o
theorem own_pt{D:Nat}{w:World}{base size n:Nat}{e:TypeId}{v:Value}{xs:List Value}(k:w.ownsRow base e size v n xs)(hK:Dfr D w)(o:Obj):(w.putObj D o).ownsRow base e size v n xs:=(Upd.of_put w D o).own3 k (hK.row k)
end Go.Proofs.YtegcamkgeacjfaaGreatDoor
namespace Go.Proofs.YtegcamkgeacjfaaGreatDoor
set_option maxHeartbeats 8000000
set_option maxRecDepth 100000
open Go.RowKit Go.Extern.Stop Go.Stop Go.Extern
set_option linter.unusedVariables false
attribute [local irreducible] wpList wpAnyH Code.wp Oper.wp Go
theorem Yj.mono{B B':Nat}{w:World}{Z:List Zv}(h:Yj B' w Z)(hB:B≤B'):Yj B w Z:=fun i hi=>Zg (h i hi) hB
theorem Yj.pt{D B:Nat}{w:World}{Z:List Zv}(h:Yj B w Z)(hK:Dfr D w)(o:Obj):Yj B (w.putObj D o) Z:=fun i hi=>own_pt (h i hi) hK o
theorem Hq{f:Ent→Value}(L:List Ent)(id:Int):Vm (L.map fun x=>(x.1,f x)) id=(Pi L id).map f:=by
 induction L with
 | nil=>rfl
 | cons x L ih =>
  unfold Pi at ih ⊢
  rw[List.map_cons,Vm,List.find?_cons]
  by_cases h:id=x.1
  ·subst h;simp
  ·rw[if_neg h,ih,show(x.1==id)=false from by simpa using fun e=>h e.symm]
theorem keyF_mem{L:List Ent}{id:Int}{x:Ent}(h:Pi L id=some x):x∈L∧x.1=id:=⟨List.mem_of_find?_eq_some h,by simpa using List.find?_some h⟩
theorem Ux{l:Bl}{data fuel:Int}{D T:List Ent}{id:Int}(h:Pi D id=none):Zbf l data fuel D T id=[((4:Int),id,(18:Int))]:=by unfold Zbf;rw[h]
theorem Nm{l:Bl}{data fuel:Int}{D T:List Ent}{id:Int}{x:Ent}(h:Pi D id=some x)(h2:Pi T id=none):Zbf l data fuel D T id=[((4:Int),id,(18:Int))]:=by unfold Zbf;rw[h,h2]
theorem Wc{l:Bl}{data fuel:Int}{D T:List Ent}{id:Int}(h:Pi D id=none):Zer l data fuel D T id=[]:=by unfold Zer;rw[h]
theorem Nw{l:Bl}{data fuel:Int}{D T:List Ent}{id:Int}{x:Ent}(h:Pi D id=some x)(h2:Pi T id=none):Zer l data fuel D T id=[]:=by unfold Zer;rw[h,h2]
theorem Sb{l:Bl}{data fuel:Int}{D T:List Ent}{id:Int}{x y:Ent}(h:Pi D id=some x)(h2:Pi T id=some y)(h3:((Xu x.2.1 0:Nat):Int)≠((Jl l data fuel (Zo y.2.1:Nat)).length:Nat)):Zbf l data fuel D T id=[((4:Int),id,(13:Int))]:=by unfold Zbf;rw[h,h2];exact if_neg h3
theorem Ow{l:Bl}{data fuel:Int}{D T:List Ent}{id:Int}{x y:Ent}(h:Pi D id=some x)(h2:Pi T id=some y)(h3:((Xu x.2.1 0:Nat):Int)=((Jl l data fuel (Zo y.2.1:Nat)).length:Nat)):Zbf l data fuel D T id=[]:=by unfold Zbf;rw[h,h2];exact if_pos h3
theorem Nr{l:Bl}{data fuel:Int}{D T:List Ent}{id:Int}{x y:Ent}(h:Pi D id=some x)(h2:Pi T id=some y):Zer l data fuel D T id=[((id,((Xu x.2.1 1:Nat):Int),((Xu x.2.1 2:Nat):Int),((Xu x.2.1 3:Nat):Int)),Jl l data fuel (Zo y.2.1:Nat))]:=by unfold Zer;rw[h,h2]
theorem Un{l:Bl}{data fuel:Int}{D T:List Ent}{P:List Int}{j:Nat}(hj:j<P.length):Ye l data fuel D T (P.take (j+1))=Ye l data fuel D T (P.take j)++Zbf l data fuel D T (P.getD j 0):=by
 unfold Ye
 rw[List.take_succ_eq_append_getElem hj,List.flatMap_append,show P.getD j 0=P[j] from by simp[List.getD,hj]]
 simp
theorem Gr{l:Bl}{data fuel:Int}{D T:List Ent}{P:List Int}{j:Nat}(hj:j<P.length):Vi l data fuel D T (P.take (j+1))=Vi l data fuel D T (P.take j)++Zer l data fuel D T (P.getD j 0):=by
 unfold Vi
 rw[List.take_succ_eq_append_getElem hj,List.flatMap_append,show P.getD j 0=P[j] from by simp[List.getD,hj]]
 simp
theorem oneG_1(l:Bl)(data fuel:Int)(D T:List Ent)(id:Int):(Zbf l data fuel D T id).length≤1:=by
 unfold Zbf
 repeat' split
 all_goals simp
theorem oneV_1(l:Bl)(data fuel:Int)(D T:List Ent)(id:Int):(Zer l data fuel D T id).length≤1:=by
 unfold Zer
 repeat' split
 all_goals simp
theorem Bg(l:Bl)(data fuel:Int)(D T:List Ent):∀ P:List Int,(Ye l data fuel D T P).length≤P.length
 | []=>Nat.le_refl _
 | x::P=>by
  have:=Bg l data fuel D T P;have:=oneG_1 l data fuel D T x
  show(Zbf l data fuel D T x++Ye l data fuel D T P).length≤_
  rw[List.length_append,List.length_cons];omega
theorem Lu(l:Bl)(data fuel:Int)(D T:List Ent):∀ P:List Int,(Vi l data fuel D T P).length≤P.length
 | []=>Nat.le_refl _
 | x::P=>by
  have:=Lu l data fuel D T P;have:=oneV_1 l data fuel D T x
  show(Zer l data fuel D T x++Vi l data fuel D T P).length≤_
  rw[List.length_append,List.length_cons];omega
theorem Zbt(l:Bl)(data fuel r:Int)(hf:fuel≤1000):(Jl l data fuel r).length≤18001:=by
 have h1:=Yp l r 2 fuel hf
 have h2:=Zch data (Zd l r 2 fuel).es
 unfold Jl;omega
theorem Zeb(p:Addr)(N c:Nat)(xs:List Value)(w:World)(h:Sl w (.slice (some p) N c) N xs)(hl:xs.length=N*3)(h1:∀ u∈xs,u.oneCell'=true)(hn:N≤1000000) :
 C0 114 #[.slice (some p) N c] w (Ko (fun w' r=>∃ q c2,r=.slice q N c2∧w'.ownsRow w.heap.size 164 3 (.slice q N c2) N xs) w):=by
 refine zin 8 Tryz.func114 ?_
 refine xb0 17 164 fun b1 W1 n1=>?_
 have o1:=Xc (size:=3) (n:=0) n1.blk (n1.ge (B1 w)) rfl (by decide)
 refine xbi 1 fun _ _ _ _ zJ zQ zo zx zy zK=>Zw (m:=N) (news:=xs) (.agg #[V0 0,V0 0,V0 0]) 3 24 (N) (xs) zo Tryz.underlying59 (by kernel_rfl) rfl (by decide) zx o1 zy (h.below n1.below) hl h1 (by unfold maxLen;omega) (by omega) n1.below.size (by omega) (by rfl) fun a2 a3 W2 o2 a4 a1=>?_
 refine zK _ _ ?_
 have a0:=n1.below.trans a1
 exact xe 4 (.slice a2 N a3) ⟨_,rfl,a0,_,_,rfl,o2⟩
theorem Zep(w:World) :
 C0 114 #[S0] w (Ret (S0) w):=by
 refine zin 8 Tryz.func114 ?_
 exact xe 20 (S0) ⟨rfl,(B1 w)⟩
theorem mapC_one(L:List Mp):∀ u∈L.flatMap Hs,u.oneCell'=true:=fun u hu=>by
 obtain⟨m,_,h⟩:=List.mem_flatMap.1 hu
 simp only[Hs,List.mem_cons,List.not_mem_nil,or_false] at h
 rcases h with rfl|rfl|rfl<;>rfl
theorem mapC_flen(L:List Mp):(L.flatMap Hs).length=L.length*3:=by
 induction L with
 | nil=>rfl
 | cons x L ih=>rw[List.flatMap_cons,List.length_append,ih,List.length_cons];show 3+_=_;omega
theorem Re{base:Nat}(a:O0)(c:Nat)(L:List Mp)(w:World)(ho:w.ownsRow base 164 3 (.slice a L.length c) L.length (L.flatMap Hs))(hn:L.length≤1000000):C0 114 #[.slice a L.length c] w (Ko (fun w' r=>∃ q c2,r=.slice q L.length c2∧w'.ownsRow w.heap.size 164 3 (.slice q L.length c2) L.length (L.flatMap Hs)) w):=by
 rcases ho.2 with ⟨h1,h2⟩|⟨g,a0,a1,hv,_⟩
 ·simp only[Value.slice.injEq] at h1
  obtain⟨rfl,hl,rfl⟩:=h1
  rw[hl]
  have:L=[]:=List.eq_nil_of_length_eq_zero hl
  subst this
  exact(Zep w).mono fun e W q=>⟨_,q.1,q.2,none,0,rfl,World.ownsRow_nil _ _ _ _⟩
 ·simp only[Value.slice.injEq] at hv
  obtain⟨rfl,_,rfl⟩:=hv
  exact Zeb _ _ _ _ w (Zh ho) (mapC_flen L) (mapC_one L) hn
def DvsP(B bx:Nat)(cs:List Value)(D:List Dg)(l:Bl)(data fuel:Int)(De Te:List Ent)(ra rb rc:Nat)(kd kr km:List (Int×Value))(w:World)(e:Ending)(w':World):Prop :=
 ∃ (P:List Int) (q:O0) (d:Nat) (Z:List Zv),Rv De Te P∧e=.returned (.slice q Z.length d)∧Cx B bx cs (D++Ye l data fuel De Te P) ra rb rc kd kr km w w'∧Z.map Prod.fst=Vi l data fuel De Te P∧Yj w.heap.size w' Z∧w'.ownsRow w.heap.size 61 5 (.slice q Z.length d) Z.length (Z.flatMap Lg)
theorem Zhk{De Te:List Ent}{P:List Int}(h:Rv De Te P):P.length≤De.length+Te.length:=by
 have h1:P.Nodup:=h.1.imp fun q e=>by omega
 have h2:∀ {L E:List Int},L.Nodup→(∀ x∈L,x∈E)→L.length≤E.length:=by
  intro L
  induction L with
  | nil=>intro E _ _;exact Nat.zero_le _
  | cons a L ih =>
   intro E h k
   rw[List.nodup_cons] at h
   have ha:=k a List.mem_cons_self
   have:=ih (E:=E.erase a) h.2 fun x hx=>(List.mem_erase_of_ne (show x≠a from fun e=>h.1 (by rw[←e];exact hx))).2 (k x (List.mem_cons_of_mem _ hx))
   rw[List.length_erase_of_mem ha] at this
   have:=List.length_pos_of_mem ha
   rw[List.length_cons];omega
 have:=h2 h1 (E:=De.map Prod.fst++Te.map Prod.fst) fun x hx=>by rw[List.mem_append];exact(h.2 x).1 hx
 simpa using this
theorem Cc(B bx:Nat)(p:O0)(c:Nat)(D:List Dg)(ra rb rc:Nat)(km:List (Int×Value))(pi:O0)(ni ci Bi b:Nat)(l:Bl)(s:Sup)(fuel:Int)(De Te:List Ent)(w:World)(hk:Blk w bx [.slice p D.length c,P0 b,V0 s.tx,V0 s.time,V0 s.unit,V0 s.data,V0 s.blocks,V0 s.top,V0 s.details,V0 s.dslots,V0 s.dover,V0 s.mindex,V0 s.mover,V0 fuel,.map (some ra),.map (some rb),.map (some rc)] 114)(ho:w.ownsRow B 100 3 (.slice p D.length c) D.length (D.flatMap dmc))(hM:Maps3 B ra rb rc (De.map fun x=>(x.1,Hc x)) (Te.map fun x=>(x.1,V0 ((Zo x.2.1:Nat):Int))) km w)(hR:Ks (Jl l s.data fuel) km w)(hks:∀ y∈Te,((Zo y.2.1:Nat):Int)∈km.map Prod.fst)(hfu:fuel≤1000)(hBb:B≤bx)(hBw:B≤w.heap.size)(hl:D.length≤500000000)(hDe:De.length≤18001)(hTe:Te.length≤18001) :
 C0 51 #[P0 bx] w (DvsP B bx [P0 b,V0 s.tx,V0 s.time,V0 s.unit,V0 s.data,V0 s.blocks,V0 s.top,V0 s.details,V0 s.dslots,V0 s.dover,V0 s.mindex,V0 s.mover,V0 fuel,.map (some ra),.map (some rb),.map (some rc)] D l s.data fuel De Te ra rb rc (De.map fun x=>(x.1,Hc x)) (Te.map fun x=>(x.1,V0 ((Zo x.2.1:Nat):Int))) km w):=by
 have m0:w.heap.size≤w.heap.size:=Nat.le_refl _
 refine zin 78 Tryz.func51 ?_
 refine xc 14 (args:=#[P0 bx]) (Zay B bx b _ _ _ s fuel ra rb rc (De.map fun x=>(x.1,Hc x)) (Te.map fun x=>(x.1,V0 ((Zo x.2.1:Nat):Int))) km _ hk hM (by rw[List.length_map];omega) (by rw[List.length_map];omega)) ?_
 rintro _ W1 ⟨qi,ci,P,rfl,e3,a8,m9,m6⟩
 have n5:=Nat.le_refl w.heap.size
 have hP:Rv De Te P:=⟨m9,fun z=>by rw[m6];simp only[List.map_map];rfl⟩
 have o1:=Zhk hP
 have j7:=hk.below e3
 have l8:=j7
 have j8:=Zb ho e3
 have l7:=j8
 rw[(by simp[Ye]:D=D++Ye l s.data fuel De Te (P.take 0))] at l8 l7
 have d6:=Zg a8 n5
 have l2:=hM.below e3
 have j4:=hR.below e3
 have hB:=blB (Below.refl B w) hBw e3
 have hO:=(show Ze [114,100] w _ from(Ze.of_below e3))
 refine zl 5 78 (fun zm m7 V=>∃ (j:Nat) (p:O0) (c:Nat) (pz:O0) (cz:Nat) (Z:List Zv),m7=[(0,P0 bx),(2,S0),(3,.slice pz Z.length cz),(12,.slice qi P.length ci),(13,V0 (P.length:Int)),(14,V0 (j:Int))]∧zm=P.length-((j:Int)).toNat∧Below B w V∧Ze [114,100] w V∧Blk V bx ([.slice p ((D++Ye l s.data fuel De Te (P.take j)).length) c,P0 b,V0 s.tx,V0 s.time,V0 s.unit,V0 s.data,V0 s.blocks,V0 s.top,V0 s.details,V0 s.dslots,V0 s.dover,V0 s.mindex,V0 s.mover,V0 fuel,.map (some ra),.map (some rb),.map (some rc)]) 114∧V.ownsRow B 100 3 (.slice p (D++Ye l s.data fuel De Te (P.take j)).length c) (D++Ye l s.data fuel De Te (P.take j)).length ((D++Ye l s.data fuel De Te (P.take j)).flatMap dmc)∧V.ownsRow w.heap.size 3 1 (.slice qi P.length ci) P.length (P.map V0)∧V.ownsRow w.heap.size 61 5 (.slice pz Z.length cz) Z.length (Z.flatMap Lg)∧Maps3 B ra rb rc (De.map fun x=>(x.1,Hc x)) (Te.map fun x=>(x.1,V0 ((Zo x.2.1:Nat):Int))) km V∧Ks (Jl l s.data fuel) km V∧Yj w.heap.size V Z∧j≤P.length∧Z.map Prod.fst=Vi l s.data fuel De Te (P.take j)) ⟨0,_,_,none,0,[],rfl,rfl,hB,hO,l8,l7,d6,World.ownsRow_nil _ _ _ _,l2,j4,Yj.nil _ _,Nat.zero_le _,rfl⟩ ?_
 rintro _ _ W2 ⟨j,p,c,pz,cz,Z,rfl,rfl,a5,b6,b3,ho,a8,e4,hM,hR,e2,hj,hZ⟩ J2 g2 r2
 have o9:=Bg l s.data fuel De Te (P.take j)
 have o5:=Lu l s.data fuel De Te (P.take j)
 have n9:=List.length_take_le' j P
 have m8:=congrArg List.length hZ
 rw[List.length_map] at m8
 refine xid 6 ((j:Int)<(P.length:Int)) (fun n2=>?_) (fun n2=>?_)
 ·refine xx 6 _ P.length j 1 (Ints.elem (Zh a8) (k:=j) (by omega)).1 ?_
  refine xl 0 ((Ints.elem (Zh a8) (k:=j) (by omega)).2) ?_
  refine xb 8 14 b3 ?_
  rcases hkx:Pi De (P.getD j 0) with _|x
  ·have j2:Vm (De.map fun x=>(x.1,Hc x)) (P.getD j 0)=none:=by rw[Hq,hkx];rfl
   refine xlkN 1 (z:=.agg #[V0 0,V0 0,V0 0,V0 0]) (P.getD j 0) true Tryz.underlying108 (Sw Tryz.underlying3) (fun V=>by kernel_rfl) hM.m1 j2 ?_
   refine xa 3 [V0 0,V0 0,V0 0,V0 0] 202 fun b4 W4 n4=>?_
   have g4:=n4.ge0 a5
   refine xsv 0 n4.blk [V0 0,V0 0,V0 0,V0 0] fun W5 u5 k5=>?_
   have a7:=u5.blkT (b3.below n4.below) n4.blk (by decide)
   refine xb 8 15 a7 ?_
   rcases hky:Pi Te (P.getD j 0) with _|y
   ·have c9:Vm (Te.map fun x=>(x.1,V0 ((Zo x.2.1:Nat):Int))) (P.getD j 0)=none:=by rw[Hq,hky];rfl
    have h4:=(hM.below n4.below).updBlk u5 n4.blk
    refine xlkN 1 (z:=V0 0) (P.getD j 0) true Tryz.underlying109 (Sw Tryz.underlying3) (fun V=>by kernel_rfl) h4.m2 c9 ?_
    have i9:=u5.own2 (Zb ho n4.below) n4.blk (by decide)
    have h7:=u5.below (blB a5 hBw n4.below) (Nat.le_trans hBw g4)
    refine xc 25 (args:=#[P0 bx,V0 4,V0 (P.getD j 0),V0 18]) (Xy B bx _ _ (D++Ye l s.data fuel De Te (P.take j)) ra rb rc _ _ _ _ _ _ _ _ _ _ _ _ _ _ _ _ _ _ _ 4 (P.getD j 0) 18 _ (by first|assumption|decide|omega) a7 i9 h4 hBb (Nat.le_trans hBw h7.size) (by first|omega|(simp;omega))) ?_
    rintro _ W6 ⟨rfl,pa,ca,n1,f6,e0,c8,hM⟩
    refine xwm 7 ((j:Int)+1) (↑(j+1):Int) ?_
    have b1:=e0
    have b2:=c8
    have eg:Ye l s.data fuel De Te (P.take (j+1))=_:=(Un (by omega)).trans (congrArg (_++·) (Ux hkx))
    have ev:Vi l s.data fuel De Te (P.take (j+1))=_:=(Gr (by omega)).trans (congrArg (_++·) (Wc hkx))
    rw[Eg,←eg] at b1 b2
    have i6:=h7.trans n1
    have k7:=(Ze.upd_new (b6.trans (Ze.of_below n4.below)) u5 g4).trans f6
    have d0:=Zn (u5.own2 (Zb a8 n4.below) n4.blk (by decide)) f6 (by decide)
    have e8:=Zn (u5.own2 (Zb e4 n4.below) n4.blk (by decide)) f6 (by decide)
    have i4:=((hR.below n4.below).only (Ze.of_upd (T:=[202]) u5 n4.blk (by decide)) (by decide)).only f6 (by decide)
    have f2:=((e2.below n4.below).only (Ze.of_upd (T:=[202]) u5 n4.blk (by decide)) (by decide)).only f6 (by decide)
    exact ze 2 (g2 _ _ _ ⟨j+1,_,_,_,_,Z,rfl,rfl,i6,k7,b1,b2,d0,e8,hM,i4,f2,by omega,by rw[ev,List.append_nil];exact hZ⟩ (by omega))
   have c9:Vm (Te.map fun x=>(x.1,V0 ((Zo x.2.1:Nat):Int))) (P.getD j 0)=some (V0 ((Zo y.2.1:Nat):Int)):=by rw[Hq,hky];rfl
   have e9:=(hM.below n4.below).updBlk u5 n4.blk
   refine xlkS 1 (P.getD j 0) true Tryz.underlying109 (Sw Tryz.underlying3) e9.m2 c9 ?_
   have k0:=u5.own2 (Zb ho n4.below) n4.blk (by decide)
   have g0:=u5.below (blB a5 hBw n4.below) (Nat.le_trans hBw g4)
   refine xc 25 (args:=#[P0 bx,V0 4,V0 (P.getD j 0),V0 18]) (Xy B bx _ _ (D++Ye l s.data fuel De Te (P.take j)) ra rb rc _ _ _ _ _ _ _ _ _ _ _ _ _ _ _ _ _ _ _ 4 (P.getD j 0) 18 _ (by first|assumption|decide|omega) a7 k0 e9 hBb (Nat.le_trans hBw g0.size) (by first|omega|(simp;omega))) ?_
   rintro _ W7 ⟨rfl,pa,ca,m5,f4,e0,c8,hM⟩
   refine xwm 7 ((j:Int)+1) (↑(j+1):Int) ?_
   have b1:=e0
   have b2:=c8
   have eg:Ye l s.data fuel De Te (P.take (j+1))=_:=(Un (by omega)).trans (congrArg (_++·) (Ux hkx))
   have ev:Vi l s.data fuel De Te (P.take (j+1))=_:=(Gr (by omega)).trans (congrArg (_++·) (Wc hkx))
   rw[Eg,←eg] at b1 b2
   have l1:=g0.trans m5
   have i3:=(Ze.upd_new (b6.trans (Ze.of_below n4.below)) u5 g4).trans f4
   have d7:=Zn (u5.own2 (Zb a8 n4.below) n4.blk (by decide)) f4 (by decide)
   have h5:=Zn (u5.own2 (Zb e4 n4.below) n4.blk (by decide)) f4 (by decide)
   have k6:=((hR.below n4.below).only (Ze.of_upd (T:=[202]) u5 n4.blk (by decide)) (by decide)).only f4 (by decide)
   have h9:=((e2.below n4.below).only (Ze.of_upd (T:=[202]) u5 n4.blk (by decide)) (by decide)).only f4 (by decide)
   exact ze 2 (g2 _ _ _ ⟨j+1,_,_,_,_,Z,rfl,rfl,l1,i3,b1,b2,d7,h5,hM,k6,h9,by omega,by rw[ev,List.append_nil];exact hZ⟩ (by omega))
  have j2:Vm (De.map fun x=>(x.1,Hc x)) (P.getD j 0)=some (Hc x):=by rw[Hq,hkx];rfl
  refine xlkS 1 (P.getD j 0) true Tryz.underlying108 (Sw Tryz.underlying3) hM.m1 j2 ?_
  refine xa 3 [V0 0,V0 0,V0 0,V0 0] 202 fun b8 W8 n8=>?_
  have g8:=n8.ge0 a5
  refine xsv 0 n8.blk [V0 (↑(Xu x.2.1 0):Int),V0 (↑(Xu x.2.1 1):Int),V0 (↑(Xu x.2.1 2):Int),V0 (↑(Xu x.2.1 3):Int)] fun W9 u9 k9=>?_
  have a2:=u9.blkT (b3.below n8.below) n8.blk (by decide)
  refine xb 8 15 a2 ?_
  rcases hky:Pi Te (P.getD j 0) with _|y
  ·have c9:Vm (Te.map fun x=>(x.1,V0 ((Zo x.2.1:Nat):Int))) (P.getD j 0)=none:=by rw[Hq,hky];rfl
   have g9:=(hM.below n8.below).updBlk u9 n8.blk
   refine xlkN 1 (z:=V0 0) (P.getD j 0) true Tryz.underlying109 (Sw Tryz.underlying3) (fun V=>by kernel_rfl) g9.m2 c9 ?_
   have j3:=u9.own2 (Zb ho n8.below) n8.blk (by decide)
   have f3:=u9.below (blB a5 hBw n8.below) (Nat.le_trans hBw g8)
   refine xc 25 (args:=#[P0 bx,V0 4,V0 (P.getD j 0),V0 18]) (Xy B bx _ _ (D++Ye l s.data fuel De Te (P.take j)) ra rb rc _ _ _ _ _ _ _ _ _ _ _ _ _ _ _ _ _ _ _ 4 (P.getD j 0) 18 _ (by first|assumption|decide|omega) a2 j3 g9 hBb (Nat.le_trans hBw f3.size) (by first|omega|(simp;omega))) ?_
   rintro _ p1 ⟨rfl,pa,ca,j9,c0,e0,c8,hM⟩
   refine xwm 7 ((j:Int)+1) (↑(j+1):Int) ?_
   have b1:=e0
   have b2:=c8
   have eg:Ye l s.data fuel De Te (P.take (j+1))=_:=(Un (by omega)).trans (congrArg (_++·) (Nm hkx hky))
   have ev:Vi l s.data fuel De Te (P.take (j+1))=_:=(Gr (by omega)).trans (congrArg (_++·) (Nw hkx hky))
   rw[Eg,←eg] at b1 b2
   have k4:=f3.trans j9
   have j6:=(Ze.upd_new (b6.trans (Ze.of_below n8.below)) u9 g8).trans c0
   have e1:=Zn (u9.own2 (Zb a8 n8.below) n8.blk (by decide)) c0 (by decide)
   have h3:=Zn (u9.own2 (Zb e4 n8.below) n8.blk (by decide)) c0 (by decide)
   have j1:=((hR.below n8.below).only (Ze.of_upd (T:=[202]) u9 n8.blk (by decide)) (by decide)).only c0 (by decide)
   have h6:=((e2.below n8.below).only (Ze.of_upd (T:=[202]) u9 n8.blk (by decide)) (by decide)).only c0 (by decide)
   exact ze 2 (g2 _ _ _ ⟨j+1,_,_,_,_,Z,rfl,rfl,k4,j6,b1,b2,e1,h3,hM,j1,h6,by omega,by rw[ev,List.append_nil];exact hZ⟩ (by omega))
  have c9:Vm (Te.map fun x=>(x.1,V0 ((Zo x.2.1:Nat):Int))) (P.getD j 0)=some (V0 ((Zo y.2.1:Nat):Int)):=by rw[Hq,hky];rfl
  have c1:=(hM.below n8.below).updBlk u9 n8.blk
  refine xlkS 1 (P.getD j 0) true Tryz.underlying109 (Sw Tryz.underlying3) c1.m2 c9 ?_
  refine xb 26 16 a2 ?_
  have d8:=(hR.below n8.below).only (Ze.of_upd (T:=[202]) u9 n8.blk (by decide)) (by decide)
  obtain⟨am,cm,n3,l9⟩:=d8.get (hks y (keyF_mem hky).1)
  have n7:=Zbt l s.data fuel (Zo y.2.1:Nat) hfu
  refine xlkS 1 (↑(Zo y.2.1):Int) false Tryz.underlying110 (Sw Tryz.underlying3) c1.m3 n3 ?_
  refine xb 7 0 k9 ?_
  refine xin 5 (↑(Xu x.2.1 0):Int) (↑((Jl l s.data fuel (↑(Zo y.2.1):Int)).length):Int) (fun d4=>?_) (fun d4=>?_)
  ·have i7:=d4
   have k2:=u9.own2 (Zb ho n8.below) n8.blk (by decide)
   have c7:=u9.below (blB a5 hBw n8.below) (Nat.le_trans hBw g8)
   refine xc 5 (args:=#[P0 bx,V0 4,V0 (P.getD j 0),V0 13]) (Xy B bx _ _ (D++Ye l s.data fuel De Te (P.take j)) ra rb rc _ _ _ _ _ _ _ _ _ _ _ _ _ _ _ _ _ _ _ 4 (P.getD j 0) 13 _ (by first|assumption|decide|omega) a2 k2 c1 hBb (Nat.le_trans hBw c7.size) (by first|omega|(simp;omega))) ?_
   rintro _ b9 ⟨rfl,pa,ca,g6,b0,e0,c8,hM⟩
   refine xd 2 (.t B [61]) ?_
   have d3:=(k9.only b0 (by decide)).below (Za b9)
   refine xbt (.e [0,1,2] 3) 1 B [61] d3 ?_
   refine xbt (.e [4] 5) 2 B [61] d3 ?_
   refine xbt (.e [6] 7) 3 B [61] d3 ?_
   have f9:=Zb (Zn l9 b0 (by decide)) (Za b9)
   refine yc (.o [8] 9) (args:=#[.slice am ((Jl l s.data fuel (↑(Zo y.2.1):Int)).length) cm]) (.t B [61]) (Re am cm (Jl l s.data fuel (↑(Zo y.2.1):Int)) _ f9 (by omega)) ?_
   rintro _ o4 ⟨_,rfl,a4,q9,d9,rfl,l0⟩
   have l3:=(blB (c7.trans g6) hBw (Za b9)).size
   refine⟨(SF.of_below _ a4),?_⟩
   refine xbs (.o [10] 11) 1 [V0 (P.getD j 0),V0 (↑(Xu x.2.1 1):Int),V0 (↑(Xu x.2.1 2):Int),V0 (↑(Xu x.2.1 3):Int),.slice q9 ((Jl l s.data fuel (↑(Zo y.2.1):Int)).length) d9] 61 fun o0 n6 b5=>?_
   have f1:=blB (blB (c7.trans g6) hBw (Za b9)) hBw a4
   have p2:=b5.ge0 f1
   have c3:=Zb (Zb (Zn (u9.own2 (Zb e4 n8.below) n8.blk (by decide)) b0 (by decide)) (Za b9)) a4
   have i1:=Zx c3 b5
   have a1:=Zb c3 b5.below
   have f0:=blB f1 hBw b5.below
   refine ybi (.o [] 12) (.t B [61]) fun _ _ _ _ zJ zQ zo zx zy zK=>Zw (m:=1) (news:=[V0 (P.getD j 0),V0 (↑(Xu x.2.1 1):Int),V0 (↑(Xu x.2.1 2):Int),V0 (↑(Xu x.2.1 3):Int),.slice q9 ((Jl l s.data fuel (↑(Zo y.2.1):Int)).length) d9]) (.agg #[V0 0,V0 0,V0 0,V0 0,S0]) 5 56 (Z.length+1) ((Z.flatMap Lg++[((((P.getD j 0),((Xu x.2.1 1:Nat):Int),((Xu x.2.1 2:Nat):Int),((Xu x.2.1 3:Nat):Int)),Jl l s.data fuel (Zo y.2.1:Nat)),q9,d9)].flatMap Lg)) zo Tryz.underlying22 (by kernel_rfl) rfl (by decide) zx a1 zy (b5.blk.sl 1 1 (by decide) (by decide)) rfl (by simp[Value.oneCell']) (by unfold maxLen;omega) (by omega) (Nat.le_trans m0 f0.size) (rfl) (by rfl) fun e5 g5 o8 n0 a9 h1=>?_
   refine zK _ _ (Zu (h1.mono hBw) a9 a1 (by decide)) ?_
   refine xwm (.r [13] 4) ((j:Int)+1) (↑(j+1):Int) ?_
   have f5:=(((e0.below (Za b9)).below a4).below b5.below).grown a9 a1 (by decide)
   have h8:=Zf (Zb (Zb (Zb c8 (Za b9)) a4) b5.below) a9 a1 (by decide)
   have g7:=((((((e2.below n8.below).only (Ze.of_upd (T:=[202]) u9 n8.blk (by decide)) (by decide)).only b0 (by decide)).below (Za b9)).below a4).below b5.below).only (Ze.of_grown (T:=[61]) a9 a1 (by decide)) (by decide)
   have f7:=Zf (Zb (Zg l0 l3) b5.below) a9 a1 (by decide)
   refine xv1 2 3 (show(.slice e5 (Z.length+1) g5:Value)=.slice e5 ((Z++[((((P.getD j 0),((Xu x.2.1 1:Nat):Int),((Xu x.2.1 2:Nat):Int),((Xu x.2.1 3:Nat):Int)),Jl l s.data fuel (Zo y.2.1:Nat)),q9,d9)]).length) g5 from(by rw[List.length_append];rfl)) ?_
   have b1:=f5
   have b2:=h8
   have eg:Ye l s.data fuel De Te (P.take (j+1))=_:=(Un (by omega)).trans (congrArg (_++·) (Sb hkx hky i7))
   have ev:Vi l s.data fuel De Te (P.take (j+1))=_:=(Gr (by omega)).trans (congrArg (_++·) (Nr hkx hky))
   rw[Eg,←eg] at b1 b2
   have e7:=f0.trans (h1.mono hBw)
   have k3:=(Ze.grown_new (((((Ze.upd_new (b6.trans (Ze.of_below n8.below)) u9 g8).trans b0).trans (Ze.of_below (Za b9))).trans (Ze.of_below a4)).trans (Ze.of_below b5.below)) a9 a1)
   have d5:=Zf (Zb (Zb (Zb (Zn (u9.own2 (Zb a8 n8.below) n8.blk (by decide)) b0 (by decide)) (Za b9)) a4) b5.below) a9 a1 (by decide)
   have k1:=(((hM.below (Za b9)).below a4).below b5.below).grown a9 a1
   have k8:=((((d8.only b0 (by decide)).below (Za b9)).below a4).below b5.below).only (Ze.of_grown (T:=[61]) a9 a1 (by decide)) (by decide)
   exact ze 0 (g2 _ _ _ ⟨j+1,_,_,_,_,Z++[((((P.getD j 0),((Xu x.2.1 1:Nat):Int),((Xu x.2.1 2:Nat):Int),((Xu x.2.1 3:Nat):Int)),Jl l s.data fuel (Zo y.2.1:Nat)),q9,d9)],rfl,rfl,e7,k3,b1,b2,d5,(by rw[List.length_append,List.flatMap_append];exact n0),k1,k8,(g7.snoc rfl f7),by omega,by rw[List.map_append,ev,hZ];rfl⟩ (by omega))
  have i7:=d4
  refine xd 2 (.t B [61]) ?_
  have d1:=k9.below (Za W9)
  refine xbt (.e [0,1,2] 3) 1 B [61] d1 ?_
  refine xbt (.e [4] 5) 2 B [61] d1 ?_
  refine xbt (.e [6] 7) 3 B [61] d1 ?_
  have g1:=Zb l9 (Za W9)
  refine yc (.o [8] 9) (args:=#[.slice am ((Jl l s.data fuel (↑(Zo y.2.1):Int)).length) cm]) (.t B [61]) (Re am cm (Jl l s.data fuel (↑(Zo y.2.1):Int)) _ g1 (by omega)) ?_
  rintro _ o2 ⟨_,rfl,a3,q9,d9,rfl,l0⟩
  have i5:=(blB (u9.below (blB a5 hBw n8.below) (Nat.le_trans hBw g8)) hBw (Za W9)).size
  refine⟨(SF.of_below _ a3),?_⟩
  refine xbs (.o [10] 11) 1 [V0 (P.getD j 0),V0 (↑(Xu x.2.1 1):Int),V0 (↑(Xu x.2.1 2):Int),V0 (↑(Xu x.2.1 3):Int),.slice q9 ((Jl l s.data fuel (↑(Zo y.2.1):Int)).length) d9] 61 fun p0 o6 b7=>?_
  have c4:=blB (blB (u9.below (blB a5 hBw n8.below) (Nat.le_trans hBw g8)) hBw (Za W9)) hBw a3
  have o3:=b7.ge0 c4
  have c5:=Zb (Zb (u9.own2 (Zb e4 n8.below) n8.blk (by decide)) (Za W9)) a3
  have i2:=Zx c5 b7
  have a0:=Zb c5 b7.below
  have c6:=blB c4 hBw b7.below
  refine ybi (.o [] 12) (.t B [61]) fun _ _ _ _ zJ zQ zo zx zy zK=>Zw (m:=1) (news:=[V0 (P.getD j 0),V0 (↑(Xu x.2.1 1):Int),V0 (↑(Xu x.2.1 2):Int),V0 (↑(Xu x.2.1 3):Int),.slice q9 ((Jl l s.data fuel (↑(Zo y.2.1):Int)).length) d9]) (.agg #[V0 0,V0 0,V0 0,V0 0,S0]) 5 56 (Z.length+1) ((Z.flatMap Lg++[((((P.getD j 0),((Xu x.2.1 1:Nat):Int),((Xu x.2.1 2:Nat):Int),((Xu x.2.1 3:Nat):Int)),Jl l s.data fuel (Zo y.2.1:Nat)),q9,d9)].flatMap Lg)) zo Tryz.underlying22 (by kernel_rfl) rfl (by decide) zx a0 zy (b7.blk.sl 1 1 (by decide) (by decide)) rfl (by simp[Value.oneCell']) (by unfold maxLen;omega) (by omega) (Nat.le_trans m0 c6.size) (rfl) (by rfl) fun f8 g3 o7 m4 a6 h2=>?_
  refine zK _ _ (Zu (h2.mono hBw) a6 a0 (by decide)) ?_
  refine xwm (.r [13] 4) ((j:Int)+1) (↑(j+1):Int) ?_
  have c2:=(((a2.below (Za W9)).below a3).below b7.below).grown a6 a0 (by decide)
  have i8:=Zf (Zb (Zb (Zb (u9.own2 (Zb ho n8.below) n8.blk (by decide)) (Za W9)) a3) b7.below) a6 a0 (by decide)
  have h0:=(((((e2.below n8.below).only (Ze.of_upd (T:=[202]) u9 n8.blk (by decide)) (by decide)).below (Za W9)).below a3).below b7.below).only (Ze.of_grown (T:=[61]) a6 a0 (by decide)) (by decide)
  have i0:=Zf (Zb (Zg l0 i5) b7.below) a6 a0 (by decide)
  refine xv1 2 3 (show(.slice f8 (Z.length+1) g3:Value)=.slice f8 ((Z++[((((P.getD j 0),((Xu x.2.1 1:Nat):Int),((Xu x.2.1 2:Nat):Int),((Xu x.2.1 3:Nat):Int)),Jl l s.data fuel (Zo y.2.1:Nat)),q9,d9)]).length) g3 from(by rw[List.length_append];rfl)) ?_
  have b1:=c2
  have b2:=i8
  have eg:Ye l s.data fuel De Te (P.take (j+1))=_:=(Un (by omega)).trans (congrArg (_++·) (Ow hkx hky i7))
  have ev:Vi l s.data fuel De Te (P.take (j+1))=_:=(Gr (by omega)).trans (congrArg (_++·) (Nr hkx hky))
  rw[List.append_nil] at eg
  rw[←eg] at b1 b2
  have e6:=c6.trans (h2.mono hBw)
  have l4:=(Ze.grown_new ((((Ze.upd_new (b6.trans (Ze.of_below n8.below)) u9 g8).trans (Ze.of_below (Za W9))).trans (Ze.of_below a3)).trans (Ze.of_below b7.below)) a6 a0)
  have d2:=Zf (Zb (Zb (Zb (u9.own2 (Zb a8 n8.below) n8.blk (by decide)) (Za W9)) a3) b7.below) a6 a0 (by decide)
  have j0:=(((c1.below (Za W9)).below a3).below b7.below).grown a6 a0
  have j5:=(((d8.below (Za W9)).below a3).below b7.below).only (Ze.of_grown (T:=[61]) a6 a0 (by decide)) (by decide)
  exact ze 0 (g2 _ _ _ ⟨j+1,_,_,_,_,Z++[((((P.getD j 0),((Xu x.2.1 1:Nat):Int),((Xu x.2.1 2:Nat):Int),((Xu x.2.1 3:Nat):Int)),Jl l s.data fuel (Zo y.2.1:Nat)),q9,d9)],rfl,rfl,e6,l4,b1,b2,d2,(by rw[List.length_append,List.flatMap_append];exact m4),j0,j5,(h0.snoc rfl i0),by omega,by rw[List.map_append,ev,hZ];rfl⟩ (by omega))
 refine xe 12 (.slice pz Z.length cz) ?_
 obtain rfl:j=P.length:=by omega
 have l5:=b3
 have l6:=ho
 rw[List.take_of_length_le (Nat.le_refl _)] at l5 l6 hZ
 exact⟨P,_,_,Z,hP,rfl,⟨_,_,a5,b6,l5,l6,hM⟩,hZ,e2,e4⟩
theorem Zby(s:Bl):Wh Vn s=[Zl s 0 8]:=rfl
theorem Zb4(s:Bl):Hk Vn s=decide (Zl s 0 8≤1099511627775):=by
 unfold Hk
 rw[Zby,show Vn.length=1 from rfl]
 unfold Wu
 rw[show List.range 1=[0] from rfl]
 simp[inP,Vn]
 omega
theorem map_e7{s:Bl}(h:s.length≠8):Xt Vn s=7∧Mb s=0∧Ef s=0:=by
 have he:Xt Vn s=7:=if_neg h
 have hn:Zae s=0:=by unfold Zae Qa;rw[he];rfl
 unfold Mb Ef
 rw[hn];exact⟨he,rfl,rfl⟩
theorem map_e2{s:Bl}(h8:s.length=8)(h:¬ Zl s 0 8≤1099511627775):Xt Vn s=2∧Mb s=0∧Ef s=0:=by
 have he:Xt Vn s=2:=by unfold Xt;rw[show(Jy Vn Vn.length).sum=8 from rfl,if_pos h8,Zb4,decide_eq_false h];rfl
 have hn:Zae s=0:=by unfold Zae Qa;rw[he];rfl
 unfold Mb Ef
 rw[hn];exact⟨he,rfl,rfl⟩
theorem map_e0{s:Bl}(h8:s.length=8)(h:Zl s 0 8≤1099511627775):Xt Vn s=0∧Mb s=Zl s 0 8/16777216∧Ef s=Zl s 0 8%16777216:=by
 have he:Xt Vn s=0:=by unfold Xt;rw[show(Jy Vn Vn.length).sum=8 from rfl,if_pos h8,Zb4,decide_eq_true h];rfl
 have hn:Zae s=Zl s 0 8:=by unfold Zae Qa;rw[if_pos he,Zby];rfl
 unfold Mb Ef
 rw[hn];exact⟨he,rfl,rfl⟩
def GetP8(s:Bl)(w:World)(e:Ending)(w':World):Prop :=
 (¬ Zl s 0 8<9223372036854775808∧e=.returned (.tuple #[V0 0,V0 2])∧B0 w w')∨(Zl s 0 8<9223372036854775808∧e=.returned (.tuple #[V0 (Zl s 0 8:Int),V0 0])∧B0 w w')
theorem ref_Get8(a:O0)(n c:Nat)(s:Bl)(w:World)(hn:s.length=n)(h8:n=8)(h:Bys w (.slice a n c) s):C0 213 #[.slice a n c,V0 0,V0 8] w (GetP8 s w):=by
 subst hn
 by_cases hq:Zl s 0 8<9223372036854775808
 ·refine(Uv a c 0 8 s w (by decide) (by omega) (by omega) h hq).mono ?_
  rintro e W ⟨rfl,hb⟩
  exact .inr ⟨hq,rfl,hb⟩
 ·refine(Wv a c 0 8 s w (by decide) (by omega) (by omega) h hq).mono ?_
  rintro e W ⟨rfl,hb⟩
  exact .inl ⟨hq,rfl,hb⟩
theorem rem_m(n:Nat):Int.tmod (n:Int) 16777216=((n%16777216:Nat):Int):=by
 rw[show(16777216:Int)=((16777216:Nat):Int) from rfl];exact(Int.ofNat_tmod _ _).symm
theorem Pd(s:Bl)(w:World)(hs:s.length≤1000) :
 C0 124 #[.string ⟨s.toArray⟩] w (Ret (.tuple #[V0 (↑(Mb s):Int),V0 (↑(Ef s):Int),V0 (Xt Vn s)]) w):=by
 refine zin 27 Tryz.func124 ?_
 refine xin 15 (s.length:Int) (8:Int) (fun a4=>?_) (fun a4=>?_)
 ·refine xe 9 (.tuple #[V0 0,V0 0,V0 7]) ?_
  obtain⟨e1,e2,e3⟩:=map_e7 (s:=s) (by omega)
  rw[e1,e2,e3];exact⟨rfl,(B1 w)⟩
 refine xcf 5 fun _ _ _ zJ zQ zo zx zK=>Vf s zo zx Tryz.underlying9 Tryz.underlying40 Tryz.underlying5 (by omega) ?_
 intro bz cz W2 a1 a2
 refine zK _ _ ?_
 refine xc 0 (args:=#[.slice (S1 bz) s.length cz,V0 0,V0 8]) (ref_Get8 (S1 bz) s.length cz s _ rfl (by omega) a2) ?_
 rintro e W3 a3
 rcases a3 with ⟨hq,rfl,a0⟩|⟨hq,rfl,a0⟩
 ·have hB:=bln a1 a0
  refine xe 29 (.tuple #[V0 0,V0 0,V0 2]) ?_
  obtain⟨e1,e2,e3⟩:=map_e2 (s:=s) (by omega) (by omega)
  rw[e1,e2,e3];exact⟨rfl,hB⟩
 refine xq 14 (congrArg V0 (show(IntKind.i64.wrap (Int.tdiv (↑(Zl s 0 8):Int) 16777216):Int)=(↑((Zl s 0 8)/16777216):Int) from Bf (Zl s 0 8) 16777216 (by omega) (by decide))) ?_
 refine xid 4 ((↑((Zl s 0 8)/16777216):Int)≥(65536:Int)) (fun a5=>?_) (fun a5=>?_)
 ·have hB:=bln a1 a0
  refine xe 9 (.tuple #[V0 0,V0 0,V0 2]) ?_
  obtain⟨e1,e2,e3⟩:=map_e2 (s:=s) (by omega) (by omega)
  rw[e1,e2,e3];exact⟨rfl,hB⟩
 refine xq 5 (congrArg V0 (show(IntKind.i64.wrap (Int.tdiv (↑(Zl s 0 8):Int) 16777216):Int)=(↑((Zl s 0 8)/16777216):Int) from Bf (Zl s 0 8) 16777216 (by omega) (by decide))) ?_
 refine xq 1 (congrArg V0 (show(Int.tmod (↑(Zl s 0 8):Int) 16777216:Int)=(↑((Zl s 0 8)%16777216):Int) from rem_m (Zl s 0 8))) ?_
 have hB:=bln a1 a0
 refine xe 6 (.tuple #[V0 (↑((Zl s 0 8)/16777216):Int),V0 (↑((Zl s 0 8)%16777216):Int),V0 0]) ?_
 obtain⟨e1,e2,e3⟩:=map_e0 (s:=s) (by omega) (by omega)
 rw[e1,e2,e3];exact⟨rfl,hB⟩
end Go.Proofs.YtegcamkgeacjfaaGreatDoor
namespace Go.Proofs.YtegcamkgeacjfaaGreatDoor
set_option maxHeartbeats 8000000
set_option maxRecDepth 100000
open Go.RowKit
set_option linter.unusedVariables false
theorem run_cat{P:Program}{a:Act}{o:Oper}{t t2:TypeId}{x y:Operand}{l m:Bl}(ho:o.op=.binOp .add t x y t2)(hx:a.eval x=.string ⟨l.toArray⟩)(hy:a.eval y=.string ⟨m.toArray⟩)(hl:l.length+m.length≤1000000)(w:World):(execOp a.eval o).run P w=.ok (.value (.string ⟨(l++m).toArray⟩)) w:=by
 have e:(⟨l.toArray⟩:ByteArray)++⟨m.toArray⟩=⟨(l++m).toArray⟩:=by
  apply ByteArray.ext
  simp
 have g:binOp .add t (.string ⟨l.toArray⟩) (.string ⟨m.toArray⟩)=pure (.string ((⟨l.toArray⟩:ByteArray)++⟨m.toArray⟩)):=by
  have h:¬ (9223372036854775807:Int)<((⟨l.toArray⟩:ByteArray).size:Int)+((⟨m.toArray⟩:ByteArray).size:Int):=by simp[ByteArray.size];omega
  simp[binOp,Op.stringOp]
  intro q;exact absurd q h
 have q:eqGuard .add t x y (.string ⟨l.toArray⟩:Value) (.string ⟨m.toArray⟩:Value)=pure ():=rfl
 simp only[execOp,ho,hx,hy,g,e,q]
 simp
end Go.Proofs.YtegcamkgeacjfaaGreatDoor
namespace Go.Proofs.YtegcamkgeacjfaaGreatDoor
set_option maxHeartbeats 8000000
set_option maxRecDepth 100000
open Go.RowKit Go.Extern.Stop Go.Stop Go.Extern
set_option linter.unusedVariables false
attribute [local irreducible] wpList wpAnyH Code.wp Oper.wp Go
theorem Ps(n lo hi:Int)(w:World) :
 C0 177 #[V0 n,V0 lo,V0 hi] w (Ret (.bool (decide (lo≤n∧n≤hi))) w):=by
 refine zin 15 Tryz.func177 ?_
 refine xg 11 [9,10] (decide (n≥lo)) (fun a0=>?_) (fun a0=>?_)
 ·have a0:=of_decide_eq_true a0
  exact xe 8 (.bool (decide (n≤hi))) ⟨by rw[show decide (lo≤n∧n≤hi)=decide (n≤hi) from by simp;omega],(B1 w)⟩
 have a0:=of_decide_eq_false a0
 exact xe 8 (.bool false) ⟨by rw[show decide (lo≤n∧n≤hi)=false from decide_eq_false (by omega)],(B1 w)⟩
def Zbq(N:List Int)(ws:List Nat)(k:Nat):Bl:=(List.range k).flatMap fun i=>leB (N.getD i 0) (ws.getD i 0)
theorem Bq(N:List Int)(ws:List Nat)(k:Nat):Zbq N ws (k+1)=Zbq N ws k++leB (N.getD k 0) (ws.getD k 0):=by simp[Zbq,List.range_succ]
def TxtOk(N:List Int)(ws:List Nat):Prop:=N.length≤100∧ws.length=N.length∧∀ i,i<N.length→0≤N.getD i 0∧N.getD i 0<9223372036854775808∧ws.getD i 0≤8
theorem Zcc{N:List Int}{ws:List Nat}(h:TxtOk N ws):∀ k,k≤N.length→(Zbq N ws k).length≤k*8
 | 0,_=>Nat.zero_le _
 | k+1,hk=>by
  rw[Bq,List.length_append,Ym]
  have:=Zcc h k (by omega)
  have:=(h.2.2 k (by omega)).2.2
  omega
theorem Zau(N:List Int)(ws:List Nat)(gn gw:O0)(cn cw:Nat)(w:World)(hok:TxtOk N ws)(hN:Sl w (.slice gn N.length cn) N.length (N.map V0))(hW:Sl w (.slice gw N.length cw) N.length (ws.map nv)) :
 C0 178 #[.slice gn N.length cn,.slice gw N.length cw] w (Ret (.string ⟨(Zbq N ws N.length).toArray⟩) w):=by
 have a9:=hok.1
 have a5:=hok.2.1
 refine zin 26 Tryz.func178 ?_
 have hB:=Below.refl w.heap.size w
 refine zl 17 26 (fun zm a7 V=>∃ (i:Nat),a7=[(0,.slice gn N.length cn),(1,.slice gw N.length cw),(4,.string ⟨#[]⟩),(5,.string ⟨(Zbq N ws i).toArray⟩),(6,V0 (i:Int))]∧zm=N.length-((i:Int)).toNat∧B0 w V∧i≤N.length) ⟨0,rfl,rfl,hB,Nat.zero_le _⟩ ?_
 rintro _ _ W1 ⟨i,rfl,rfl,a1,hi⟩ J1 a6 r1
 have b0:=Zcc hok i hi
 have b1:i<N.length→ws.getD i 0≤8:=fun q=>(hok.2.2 i q).2.2
 refine xid 9 ((i:Int)<(N.length:Int)) (fun a8=>?_) (fun a8=>?_)
 ·refine xd 4 .z ?_
  refine xx (.e [0,1,2] 3) _ N.length i 1 (IntsN.elem hN rfl (k:=i) (by omega)).1 ?_
  have a0:=bln a1 (Za W1)
  refine xl (.e [] 4) ((IntsN.elem (hN.below a0) rfl (k:=i) (by omega)).2) ?_
  refine xx (.e [5,6] 7) _ N.length i 1 (Zr hW a5 (k:=i) (by omega)).1 ?_
  refine xl (.e [] 8) ((Zr (hW.below a0) a5 (k:=i) (by omega)).2) ?_
  refine yc (.o [] 9) (args:=#[V0 (N.getD i 0),V0 (↑(ws.getD i 0):Int)]) .z (Rh (N.getD i 0) (ws.getD i 0) (↑(ws.getD i 0):Int) _ (hok.2.2 i (by omega)).1 (hok.2.2 i (by omega)).2.1 rfl (hok.2.2 i (by omega)).2.2) ?_
  rintro _ W3 ⟨_,rfl,a4,p2,c2,rfl,h2⟩
  refine⟨a4,?_⟩
  have a2:=Zg h2 a0.size
  refine xcv (.e [] 10) (fun _ _ _ zo zx V hV=>Kc zo zx (Gp (Zh (Zb a2 hV)) (Ym _ _)) (Ym _ _) Tryz.underlying40 Tryz.underlying5 Tryz.underlying9) ?_
  refine xbo (.e [] 11) (t:=9) (t2:=9) (fun _ _ _ _ zo zx zy V hV=>run_cat (l:=Zbq N ws i) (m:=leB (N.getD i 0) (ws.getD i 0)) zo zx zy (by rw[Ym];omega) V) ?_
  refine xwm (.r [12] 5) ((i:Int)+1) (↑(i+1):Int) ?_
  refine xv1 2 5 (show(.string ⟨(Zbq N ws i++leB (N.getD i 0) (ws.getD i 0)).toArray⟩:Value)=.string ⟨(Zbq N ws (i+1)).toArray⟩ from by rw[Bq]) ?_
  have a3:=bln a0 a4
  exact ze 0 (a6 _ _ _ ⟨i+1,rfl,rfl,a3,by omega⟩ (by omega))
 refine xe 12 (.string ⟨(Zbq N ws i).toArray⟩) ?_
 obtain rfl:i=N.length:=by omega
 exact⟨rfl,a1⟩
def Zbo(x y z u:Int):Bool:=decide (0≤x∧x≤16384)&&decide (0≤y∧y≤2147483647)&&decide (0≤z∧z≤16777215)&&decide (0≤u∧u≤16777215)
def DetStrP(x y z u:Int)(w:World)(e:Ending)(w':World):Prop :=
 (Zbo x y z u=false∧e=.returned (.string ⟨#[]⟩)∧B0 w w')∨(Zbo x y z u=true∧e=.returned (.string ⟨(Zbq [x,y,z,u] [8,8,4,4] 4).toArray⟩)∧B0 w w')
theorem detQ_ok{x y z u:Int}(h:Zbo x y z u=true):TxtOk [x,y,z,u] [8,8,4,4]:=by
 unfold Zbo at h
 simp only[Bool.and_eq_true,decide_eq_true_iff] at h
 refine⟨show 4≤100 from by decide,rfl,fun i hi=>?_⟩
 have a0:i<4:=hi
 obtain rfl|rfl|rfl|rfl:i=0∨i=1∨i=2∨i=3:=by omega
 all_goals simp[List.getD]
 all_goals omega
theorem txt4_ne(x y z u:Int):((⟨(Zbq [x,y,z,u] [8,8,4,4] 4).toArray⟩:ByteArray).toList==(⟨#[]⟩:ByteArray).toList)=false:=by
 rw[show(⟨#[]⟩:ByteArray)=⟨([]:Bl).toArray⟩ from rfl,Ue]
 apply beq_false_of_ne
 intro q
 have h1:=congrArg List.length q
 rw[Bq,List.length_append,Ym,List.length_nil] at h1
 simp at h1
theorem Tl(x y z u:Int)(w:World) :
 C0 179 #[.agg #[V0 x,V0 y,V0 z,V0 u]] w (DetStrP x y z u w):=by
 refine zin 36 Tryz.func179 ?_
 refine xa 2 [V0 x,V0 y,V0 z,V0 u] 202 fun b1 W1 n1=>?_
 refine xb 7 0 n1.blk ?_
 refine xr 0 (args:=#[V0 x,V0 0,V0 16384]) (Ps x 0 16384 _) fun W2 b0=>?_
 refine xg 2 [6,7] (!(decide ((0:Int)≤x∧x≤16384))) (fun c3=>?_) (fun c3=>?_)
 ·have c1:(decide ((0:Int)≤x∧x≤16384))=false:=Lr c3
  have hB:=bln n1.below b0
  exact xe 27 (.string ⟨#[]⟩) (.inl ⟨by unfold Zbo;first|(rw[c1];done)|(rw[c1];rfl)|(rw[c1];simp),rfl,hB⟩)
 have a0:(decide ((0:Int)≤x∧x≤16384))=true:=Lm c3
 have b4:=n1.blk.below b0
 refine xb 1 1 b4 ?_
 refine xr 0 (args:=#[V0 y,V0 0,V0 2147483647]) (Ps y 0 2147483647 _) fun W6 b6=>?_
 refine xg 3 [11,12,13] (!(decide ((0:Int)≤y∧y≤2147483647))) (fun c4=>?_) (fun c4=>?_)
 ·have b9:(decide ((0:Int)≤y∧y≤2147483647))=false:=Lr c4
  have hB:=bln (bln n1.below b0) b6
  exact xe 21 (.string ⟨#[]⟩) (.inl ⟨by unfold Zbo;first|(rw[a0,b9];done)|(rw[a0,b9];rfl)|(rw[a0,b9];simp),rfl,hB⟩)
 have a5:(decide ((0:Int)≤y∧y≤2147483647))=true:=Lm c4
 have b5:=b4.below b6
 refine xb 1 2 b5 ?_
 refine xr 0 (args:=#[V0 z,V0 0,V0 16777215]) (Ps z 0 16777215 _) fun d3 a1=>?_
 refine xg 3 [17,18,19] (!(decide ((0:Int)≤z∧z≤16777215))) (fun a8=>?_) (fun a8=>?_)
 ·have a4:(decide ((0:Int)≤z∧z≤16777215))=false:=Lr a8
  have hB:=bln (bln (bln n1.below b0) b6) a1
  exact xe 15 (.string ⟨#[]⟩) (.inl ⟨by unfold Zbo;first|(rw[a0,a5,a4];done)|(rw[a0,a5,a4];rfl)|(rw[a0,a5,a4];simp),rfl,hB⟩)
 have a2:(decide ((0:Int)≤z∧z≤16777215))=true:=Lm a8
 have b3:=b5.below a1
 refine xb 1 3 b3 ?_
 refine xr 0 (args:=#[V0 u,V0 0,V0 16777215]) (Ps u 0 16777215 _) fun d0 a9=>?_
 refine xi 4 (!(decide ((0:Int)≤u∧u≤16777215))) (fun a7=>?_) (fun a7=>?_)
 ·have a6:(decide ((0:Int)≤u∧u≤16777215))=false:=Lr a7
  have hB:=bln (bln (bln (bln n1.below b0) b6) a1) a9
  exact xe 7 (.string ⟨#[]⟩) (.inl ⟨by unfold Zbo;first|(rw[a0,a5,a2,a6];done)|(rw[a0,a5,a2,a6];rfl)|(rw[a0,a5,a2,a6];simp),rfl,hB⟩)
 have c2:(decide ((0:Int)≤u∧u≤16777215))=true:=Lm a7
 have a3:=b3.below a9
 refine xb 5 0 a3 ?_
 refine xb 1 1 a3 ?_
 refine xb 1 2 a3 ?_
 refine xb 1 3 a3 ?_
 refine xbs 0 4 [V0 x,V0 y,V0 z,V0 u] 3 fun c6 c9 c5=>?_
 refine xbs 0 4 [V0 8,V0 8,V0 4,V0 4] 3 fun c7 d2 b7=>?_
 have b8:=b7.ne c5.blk
 have c8:Zbo x y z u=true:=by
  unfold Zbo
  rw[a0,a5,a2,c2];rfl
 have b2:=c5.blk.below b7.below
 refine xr 0 (args:=#[.slice (S1 c6) 4 4,.slice (S1 c7) 4 4]) (Zau [x,y,z,u] [8,8,4,4] (S1 c6) (S1 c7) 4 4 _ (detQ_ok c8) (b2.sl 4 4 (by decide) (by decide)) (b7.blk.sl 4 4 (by decide) (by decide))) fun d1 c0=>?_
 have hB:=bln (bln (bln (bln (bln (bln (bln n1.below b0) b6) a1) a9) c5.below) b7.below) c0
 exact xe 4 (.string ⟨(Zbq [x,y,z,u] [8,8,4,4] 4).toArray⟩) (.inr ⟨c8,rfl,hB⟩)
theorem Zbb(s:Bl):Wh Ky s=[Zl s 0 8,Zl s 8 8,Zl s 16 4,Zl s 20 4]:=rfl
theorem Ns(s:Bl):Hk Ky s=Zbo (↑(Zl s 0 8):Int) (↑(Zl s 8 8):Int) (↑(Zl s 16 4):Int) (↑(Zl s 20 4):Int):=by
 unfold Hk Wu Zbo
 rw[Zbb]
 simp[Ky,List.range,List.range.loop,inP,List.getD,Yo,Bool.and_assoc]
theorem Sq:(Jy Ky Ky.length).sum=24:=rfl
def UnpRD(s:Bl)(w:World)(e:Ending)(w':World):Prop :=
 (¬ (Zl s 0 8<9223372036854775808∧Zl s 8 8<9223372036854775808)∧e=.returned (.tuple #[S0,V0 2])∧B0 w w') ∨
 ((Zl s 0 8<9223372036854775808∧Zl s 8 8<9223372036854775808)∧∃ p c,e=.returned (.tuple #[.slice p 4 c,V0 0])∧B0 w w'∧w'.ownsRow w.heap.size 3 1 (.slice p 4 c) 4 (([Zl s 0 8,Zl s 8 8,Zl s 16 4,Zl s 20 4]:List Nat).map nv))
theorem Og(a:O0)(n c:Nat)(s:Bl)(g:Nat)(w:World)(hn:s.length=n)(h24:n=24)(h:Bys w (.slice a n c) s)(kg:Blk w g [V0 8,V0 8,V0 4,V0 4] 3) :
 C0 198 #[.slice a n c,.slice (S1 g) 4 4] w (UnpRD s w):=by
 subst hn
 have hk:∀ i,i<([8,8,4,4]:List Nat).length→([8,8,4,4]:List Nat).getD i 0=1∨([8,8,4,4]:List Nat).getD i 0=2∨([8,8,4,4]:List Nat).getD i 0=4∨([8,8,4,4]:List Nat).getD i 0=8:=by decide
 have a0:Sl w (.slice (S1 g) 4 4) 4 (([8,8,4,4]:List Nat).map nv):=kg.sl 4 4 (by decide) (by decide)
 have h1:=Yl s 16 4 (by decide)
 have h2:=Yl s 20 4 (by decide)
 by_cases hq:Zl s 0 8<9223372036854775808∧Zl s 8 8<9223372036854775808
 ·refine(Pl a c s (S1 g) 4 [8,8,4,4] w hk (by rw[h24];decide) (by omega) (by decide) h a0 ?_).mono ?_
  ·intro i hi
   have a1:i<4:=hi
   obtain rfl|rfl|rfl|rfl:i=0∨i=1∨i=2∨i=3:=by omega
   ·exact hq.1
   ·exact hq.2
   ·show Zl s 16 4<_;omega
   ·show Zl s 20 4<_;omega
  ·rintro e W ⟨_,rfl,hb,p,c2,rfl,ho⟩
   exact .inr ⟨hq,p,c2,rfl,hb,ho⟩
 ·refine(Ep a c s (S1 g) 4 [8,8,4,4] w hk (by rw[h24];decide) (by omega) (by decide) h a0 ?_).mono ?_
  ·intro q;exact hq ⟨q 0 (by decide),q 1 (by decide)⟩
  ·rintro e W ⟨rfl,hb⟩
   exact .inl ⟨hq,rfl,hb⟩
theorem Gn(s:Bl)(w:World)(hs:s.length≤1000) :
 C0 123 #[.string ⟨s.toArray⟩] w (Ret (.tuple #[.agg #[V0 (↑(Xu s 0):Int),V0 (↑(Xu s 1):Int),V0 (↑(Xu s 2):Int),V0 (↑(Xu s 3):Int)],V0 (Xt Ky s)]) w):=by
 refine zin 39 Tryz.func123 ?_
 refine xa 2 [V0 0,V0 0,V0 0,V0 0] 202 fun b1 W1 n1=>?_
 refine xin 11 (s.length:Int) (24:Int) (fun b2=>?_) (fun b2=>?_)
 ·refine xsv 3 n1.blk [V0 0,V0 0,V0 0,V0 0] fun W3 u3 k3=>?_
  have g1:=n1.ge (B1 w)
  have hB:=u3.below n1.below g1
  refine xec 5 k3 (.tuple #[.agg #[V0 0,V0 0,V0 0,V0 0],V0 7]) ?_
  have he:Xt Ky s=7:=if_neg (by rw[Sq];omega)
  unfold Xu Qa
  rw[he,if_neg (by decide)];exact⟨rfl,hB⟩
 refine xcf 5 fun _ _ _ zJ zQ zo zx zK=>Vf s zo zx Tryz.underlying9 Tryz.underlying40 Tryz.underlying5 (by omega) ?_
 intro bz cz W4 a4 c0
 refine zK _ _ ?_
 refine xbs 0 4 [V0 8,V0 8,V0 4,V0 4] 3 fun b5 W5 n5=>?_
 have a5:=c0.below n5.below
 refine xc 0 (args:=#[.slice (S1 bz) s.length cz,.slice (S1 b5) 4 4]) (Og (S1 bz) s.length cz s b5 _ rfl (by omega) a5 n5.blk) ?_
 rintro e W6 c1
 rcases c1 with ⟨hq,rfl,a3⟩|⟨hq,p5,c5,rfl,a3,h5⟩
 ·have k1:=((n1.blk.below a4).below n5.below).below a3
  refine xsv 18 k1 [V0 0,V0 0,V0 0,V0 0] fun W7 u7 k7=>?_
  have g1:=n1.ge (B1 w)
  have hB:=u7.below (bln (bln (bln n1.below a4) n5.below) a3) g1
  refine xec 5 k7 (.tuple #[.agg #[V0 0,V0 0,V0 0,V0 0],V0 2]) ?_
  have he:Xt Ky s=2:=by unfold Xt;rw[Sq,if_pos (by omega),Ns,show Zbo (↑(Zl s 0 8):Int) (↑(Zl s 8 8):Int) (↑(Zl s 16 4):Int) (↑(Zl s 20 4):Int)=false from by unfold Zbo;rw[Bool.eq_false_iff];intro q;simp only[Bool.and_eq_true,decide_eq_true_iff] at q;exact hq ⟨by omega,by omega⟩,if_neg (by decide)]
  unfold Xu Qa
  rw[he,if_neg (by decide)];exact⟨rfl,hB⟩
 have b4:=(bln (bln n1.below a4) n5.below).size
 refine xd 18 (.t w.heap.size [202]) ?_
 have a0:=Zb (Zg h5 b4) (Za W6)
 refine xx (.e [0] 1) _ 4 0 1 (Zr (l:=[Zl s 0 8,Zl s 8 8,Zl s 16 4,Zl s 20 4]) (Zh a0) rfl (k:=0) (by decide)).1 ?_
 refine xlt (.e [] 2) (.t w.heap.size [202]) (fun V hV=>(Zr (l:=[Zl s 0 8,Zl s 8 8,Zl s 16 4,Zl s 20 4]) (Zh (Zn a0 hV.2 (by decide))) rfl (k:=0) (by decide)).2) ?_
 refine xx (.e [3] 4) _ 4 1 1 (Zr (l:=[Zl s 0 8,Zl s 8 8,Zl s 16 4,Zl s 20 4]) (Zh a0) rfl (k:=1) (by decide)).1 ?_
 refine xlt (.e [] 5) (.t w.heap.size [202]) (fun V hV=>(Zr (l:=[Zl s 0 8,Zl s 8 8,Zl s 16 4,Zl s 20 4]) (Zh (Zn a0 hV.2 (by decide))) rfl (k:=1) (by decide)).2) ?_
 refine xx (.e [6] 7) _ 4 2 1 (Zr (l:=[Zl s 0 8,Zl s 8 8,Zl s 16 4,Zl s 20 4]) (Zh a0) rfl (k:=2) (by decide)).1 ?_
 refine xlt (.e [] 8) (.t w.heap.size [202]) (fun V hV=>(Zr (l:=[Zl s 0 8,Zl s 8 8,Zl s 16 4,Zl s 20 4]) (Zh (Zn a0 hV.2 (by decide))) rfl (k:=2) (by decide)).2) ?_
 refine xx (.e [9] 10) _ 4 3 1 (Zr (l:=[Zl s 0 8,Zl s 8 8,Zl s 16 4,Zl s 20 4]) (Zh a0) rfl (k:=3) (by decide)).1 ?_
 refine xlt (.e [] 11) (.t w.heap.size [202]) (fun V hV=>(Zr (l:=[Zl s 0 8,Zl s 8 8,Zl s 16 4,Zl s 20 4]) (Zh (Zn a0 hV.2 (by decide))) rfl (k:=3) (by decide)).2) ?_
 refine xa (.o [12] 13) [V0 0,V0 0,V0 0,V0 0] 202 fun b8 W8 n8=>?_
 have k1:=(((n1.blk.below a4).below n5.below).below a3).below (Za W6)
 have a2:=n8.ne k1
 have g8:=n8.ge (bln (bln (bln (bln n1.below a4) n5.below) a3) (Za W6))
 refine ysv (.o [] 14) n8.blk [V0 (↑(Zl s 0 8):Int),V0 (↑(Zl s 8 8):Int),V0 (↑(Zl s 16 4):Int),V0 (↑(Zl s 20 4):Int)] (.t w.heap.size [202]) fun W9 u9 k9=>⟨(Zp u9 n8.blk g8 (by decide)),?_⟩
 refine xlv 5 k9.rp ?_
 refine xc 0 (args:=#[.agg #[V0 (↑(Zl s 0 8):Int),V0 (↑(Zl s 8 8):Int),V0 (↑(Zl s 16 4):Int),V0 (↑(Zl s 20 4):Int)]]) (Tl (↑(Zl s 0 8):Int) (↑(Zl s 8 8):Int) (↑(Zl s 16 4):Int) (↑(Zl s 20 4):Int) _) ?_
 rintro e c4 a6
 rcases a6 with ⟨b0,rfl,a1⟩|⟨b0,rfl,a1⟩
 ·have a8:=(u9.blk (k1.below n8.below) (Ne.symm (Ne.symm a2))).below a1
  refine xsv 7 a8 [V0 0,V0 0,V0 0,V0 0] fun c2 b7 b3=>?_
  have g1:=n1.ge (B1 w)
  have hB:=b7.below (bln (u9.below (bln (bln (bln (bln (bln n1.below a4) n5.below) a3) (Za W6)) n8.below) g8) a1) g1
  refine xec 5 b3 (.tuple #[.agg #[V0 0,V0 0,V0 0,V0 0],V0 2]) ?_
  have he:Xt Ky s=2:=by unfold Xt;rw[Sq,if_pos (by omega),Ns,b0,if_neg (by decide)]
  unfold Xu Qa
  rw[he,if_neg (by decide)];exact⟨rfl,hB⟩
 refine xk 3 (show(((⟨(Zbq [(↑(Zl s 0 8):Int),(↑(Zl s 8 8):Int),(↑(Zl s 16 4):Int),(↑(Zl s 20 4):Int)] [8,8,4,4] 4).toArray⟩:ByteArray).toList==(⟨#[]⟩:ByteArray).toList):Bool)=false from txt4_ne _ _ _ _) ?_
 have a7:=k9.below a1
 refine xlv 4 a7.rp ?_
 have a9:=(u9.blk (k1.below n8.below) (Ne.symm (Ne.symm a2))).below a1
 refine xsv 0 a9 [V0 (↑(Zl s 0 8):Int),V0 (↑(Zl s 8 8):Int),V0 (↑(Zl s 16 4):Int),V0 (↑(Zl s 20 4):Int)] fun c3 b9 b6=>?_
 have g1:=n1.ge (B1 w)
 have hB:=b9.below (bln (u9.below (bln (bln (bln (bln (bln n1.below a4) n5.below) a3) (Za W6)) n8.below) g8) a1) g1
 refine xec 4 b6 (.tuple #[.agg #[V0 (↑(Zl s 0 8):Int),V0 (↑(Zl s 8 8):Int),V0 (↑(Zl s 16 4):Int),V0 (↑(Zl s 20 4):Int)],V0 0]) ?_
 have he:Xt Ky s=0:=by unfold Xt;rw[Sq,if_pos (by omega),Ns,b0,if_pos rfl]
 unfold Xu Qa
 rw[he,if_pos rfl,Zbb];exact⟨rfl,hB⟩
def Wg(O:List Int×Int×List Dv)(V:World)(p:O0)(c:Nat)(Z:List Zv):Prop:=Z.length=O.2.2.length∧Z.map Prod.fst=O.2.2∧Yj 0 V Z∧V.ownsRow 0 61 5 (.slice p O.2.2.length c) O.2.2.length (Z.flatMap Lg)
theorem Wg.below{O:List Int×Int×List Dv}{V W:World}{p:O0}{c:Nat}{Z:List Zv}(h:Wg O V p c Z)(hb:Below V.heap.size V W):Wg O W p c Z:=⟨h.1,h.2.1,h.2.2.1.below hb,Zb h.2.2.2 hb⟩
theorem Wg.only{O:List Int×Int×List Dv}{V W:World}{p:O0}{c:Nat}{Z:List Zv}{T:List TypeId}(h:Wg O V p c Z)(hO:Ze T V W)(hT:(T.contains 164||T.contains 61)=false):Wg O W p c Z:=by
 rw[Bool.or_eq_false_iff] at hT
 exact⟨h.1,h.2.1,h.2.2.1.only hO hT.1,Zn h.2.2.2 hO hT.2⟩
theorem Wg.read{O:List Int×Int×List Dv}{V:World}{p:O0}{c:Nat}{Z:List Zv}(h:Wg O V p c Z):DevsR V p c Z:=by
 have ho:=h.2.2.2
 rw[←h.1] at ho
 exact Tt h.2.2.1 ho
theorem devsQ_of{O:List Int×Int×List Dv}{V:World}{B:Nat}{p:O0}{c:Nat}{Z:List Zv}(hZ:Z.map Prod.fst=O.2.2)(hM:Yj B V Z)(ho:V.ownsRow B 61 5 (.slice p O.2.2.length c) O.2.2.length (Z.flatMap Lg)):Wg O V p c Z:=by
 have hl:Z.length=O.2.2.length:=by rw[←hZ,List.length_map]
 exact⟨hl,hZ,hM.mono (Nat.zero_le _),Zg ho (Nat.zero_le _)⟩
theorem Tn(V:World){O:List Int×Int×List Dv}(h:O.2.2=[]):Wg O V none 0 []:=by
 refine⟨by rw[h];rfl,by rw[h];rfl,fun i hi=>absurd hi (by simp),?_⟩
 rw[h];exact World.ownsRow_nil _ _ _ _
theorem dq_fst{O:List Int×Int×List Dv}{V W:World}{p q:O0}{c d:Nat}{Z Y:List Zv}(h:Wg O V p c Z)(k:Wg O W q d Y):∀ i,i<O.2.2.length→(Z.getD i zvD).1=(Y.getD i zvD).1:=by
 intro i hi
 have h1:i<Z.length:=by rw[h.1];exact hi
 have h2:i<Y.length:=by rw[k.1];exact hi
 have e:(Z.map Prod.fst)[i]? = (Y.map Prod.fst)[i]? := by rw[h.2.1,k.2.1]
 rw[List.getElem?_map,List.getElem?_map,List.getElem?_eq_getElem h1,List.getElem?_eq_getElem h2] at e
 simp only[Option.map_some,Option.some.injEq] at e
 simp[List.getD,h1,h2,e]
def wsum(L:List Dv):Int:=IntKind.i64.wrap (Kt L:Int)
theorem wrap_add(a b:Int):IntKind.i64.wrap (IntKind.i64.wrap a+b)=IntKind.i64.wrap (a+b):=by
 simp only[IntKind.wrap,IntKind.signed,IntKind.bits]
 simp
 try omega
theorem sumM_take{L:List Dv}{n:Nat}(h:n<L.length){x:Dv}:Kt (L.take (n+1))=Kt (L.take n)+(L.getD n x).2.length:=by
 unfold Kt
 rw[List.take_succ_eq_append_getElem h,List.map_append,List.sum_append]
 simp[List.getD,h]
theorem zfst{Z:List Zv}{i:Nat}(h:i<Z.length)(x:Dv):(Z.map Prod.fst).getD i x=(Z.getD i zvD).1:=by simp[List.getD,h]
theorem Ze5{Z:List Zv}{i:Nat}(h:i<Z.length):Kt ((Z.map Prod.fst).take (i+1))=Kt ((Z.map Prod.fst).take i)+(Z.getD i zvD).1.2.length:=by
 rw[sumM_take (x:=zvD.1) (by rw[List.length_map];exact h),zfst h]
theorem Zcz(p:O0)(c n:Nat)(t u v x:Int)(Z:List Zv)(w:World)(hZ:Z.length=n)(hP:DevsR w p c Z) :
 C0 52 #[.agg #[V0 t,V0 u,V0 v,V0 x,.slice p n c]] w (Ret (V0 (wsum (Z.map Prod.fst))) w):=by
 have a7:=Sl.len (hP.rowN hZ)
 refine zin 20 Tryz.func52 ?_
 refine xa 2 [V0 t,V0 u,V0 v,V0 x,.slice p n c] 24 fun b1 W1 n1=>?_
 refine xb 12 4 n1.blk ?_
 refine zl 5 20 (fun zm a4 V=>∃ (i:Nat),a4=[(2,V0 0),(3,V0 (IntKind.i64.wrap (↑(Kt ((Z.map Prod.fst).take i)):Int))),(7,.slice p n c),(8,V0 (n:Int)),(9,V0 (i:Int))]∧zm=n-((i:Int)).toNat∧B0 w V∧Blk V b1 ([V0 t,V0 u,V0 v,V0 x,.slice p n c]) 24∧i≤n) ⟨0,rfl,rfl,n1.below,n1.blk,Nat.zero_le _⟩ ?_
 rintro _ _ W2 ⟨i,rfl,rfl,a1,a2,hi⟩ J2 a6 r2
 refine xid 6 ((i:Int)<(n:Int)) (fun a5=>?_) (fun a5=>?_)
 ·refine xx 6 _ n i 5 (hP.someN hZ (i:=i) (by omega)) ?_
  refine xlv 0 (Sts.rp (k:=i) (hP.below a1).row Bh zvD (by omega) (by decide)) ?_
  refine xa 0 [V0 0,V0 0,V0 0,V0 0,S0] 61 fun b4 W4 n4=>?_
  have g4:=n4.ge a1
  refine xsv 0 n4.blk [V0 ((Z.getD i zvD).1.1.1),V0 ((Z.getD i zvD).1.1.2.1),V0 ((Z.getD i zvD).1.1.2.2.1),V0 ((Z.getD i zvD).1.1.2.2.2),.slice ((Z.getD i zvD).2.1) ((Z.getD i zvD).1.2.length) ((Z.getD i zvD).2.2)] fun W5 u5 k5=>?_
  refine xb 5 4 k5 ?_
  refine xwm 7 ((i:Int)+1) (↑(i+1):Int) ?_
  refine xv1 2 3 (show(V0 (IntKind.i64.wrap ((IntKind.i64.wrap (↑(Kt ((Z.map Prod.fst).take i)):Int))+(↑((Z.getD i zvD).1.2.length):Int))):Value)=V0 (IntKind.i64.wrap (↑(Kt ((Z.map Prod.fst).take (i+1))):Int)) from congrArg V0 ((wrap_add _ _).trans (congrArg IntKind.i64.wrap (by have:=Ze5 (Z:=Z) (i:=i) (by omega);omega)))) ?_
  have a3:=u5.below (bln a1 n4.below) g4
  have a0:=u5.blkT (a2.below n4.below) n4.blk (by decide)
  exact ze 0 (a6 _ _ _ ⟨i+1,rfl,rfl,a3,a0,by omega⟩ (by omega))
 exact xe 12 (V0 (IntKind.i64.wrap (↑(Kt ((Z.map Prod.fst).take i)):Int))) ⟨by unfold wsum;rw[List.take_of_length_le (by rw[List.length_map];omega)],a1⟩
end Go.Proofs.YtegcamkgeacjfaaGreatDoor
