/- The statement LoadRight, walked. -/
import Derived.Test.YtgphgaehfdfjjaaGreatMg5
namespace Go.Proofs.YtgphgaehfdfjjaaGreat
set_option maxHeartbeats 8000000
set_option maxRecDepth 100000
open Go.RowKit Go.Extern.Stop Go.Stop Go.Extern
set_option linter.unusedVariables false
attribute [local irreducible] wpList wpAnyH Code.wp Oper.wp Go
theorem Zf1{l:Bl}(h:Xj l=0):Vt (Zf (inB l 0))=true:=by
 unfold Xj at h
 split at h
 ·unfold Hw at h
  split at h
  ·rename_i q
   unfold Zei at q
   rw[Bool.and_eq_true] at q
   exact q.2
  ·exact absurd h (by decide)
 ·rename_i q;exact absurd h q
theorem sup_nums{s:Sup}(h:Vt s=true):(0≤s.tx∧s.tx≤2147483647)∧(0≤s.time∧s.time≤16777215)∧(1≤s.unit∧s.unit≤65536)∧(0≤s.data∧s.data≤65536):=by
 unfold Vt at h
 simp only[Bool.and_eq_true,decide_eq_true_iff,Bool.true_and] at h
 omega
theorem poolO_ok{l:Bl}{fuel:Int}(h:(Ra l fuel).2.1=0):PoolOk (Zf (inB l 0)).tx (Zf (inB l 0)).time (Zf (inB l 0)).unit (Zf (inB l 0)).data (Ra l fuel).2.2:=by
 by_cases hs:Xj l=0
 ·obtain⟨a,b,c,d⟩:=sup_nums (Zf1 hs)
  refine⟨a,b,c,d,?_⟩
  rw[Ww hs]
  exact Tq _ _ _ _ _
 ·rw[Fz hs] at h;exact absurd h hs
theorem Zcj(w:World):C0 18 #[.agg #[V0 0,V0 0,V0 0,V0 0,S0],.agg #[V0 0,V0 0,V0 0,V0 0,S0]] w (Ret (.bool true) w) :=
 Zeq none none 0 0 0 0 0 0 0 [] [] w rfl rfl (fun i hi=>absurd hi (by omega)) (Rv (O:=([],0,[])) w rfl).read (Rv (O:=([],0,[])) w rfl).read
theorem Ii(O:List Int×Int×List Dv)(p:O0)(c n:Nat)(t u v x:Int)(Z:List Zv)(w:World)(hn:O.2.2.length=n)(hP:Wa O w p c Z)(hk:PoolOk t u v x O.2.2) :
 C0 6 #[.agg #[V0 t,V0 u,V0 v,V0 x,.slice p n c]] w (Ret (V0 0) w):=by
 have h:=Zbs p c n t u v x Z w (hP.1.trans hn) hP.read (by rw[hP.2.1];have:=hk.devs.sum;omega)
 rw[hP.2.1,poolE_ok.2 hk] at h
 exact h
theorem Dr(a:O0)(c:Nat)(l:Bl)(fuel:Int)(w:World)(h:Bys w (.slice a l.length c) l) :
 C0 4 #[.slice a l.length c,V0 fuel] w (Ret (.bool true) w):=by
 have b1:=h.cap rfl
 obtain⟨f2,c3,d5⟩:∃ x,(if(200:Int)<fuel then(200:Int) else fuel)=x∧x≤200:=⟨_,rfl,by split<;>omega⟩
 refine zin 54 Tryz.func4 ?_
 refine xid 13 ((l.length:Int)>(12000:Int)) (fun c8=>?_) (fun c8=>?_)
 ·refine xr 2 (args:=#[]) (Tl _) fun W2 c4=>?_
  exact xe 5 (.bool true) ⟨rfl,c4⟩
 refine xc 5 (args:=#[.slice a l.length c]) (Zgb a c l.length ((l.length/256)*256) l _ rfl (by omega) (h.below (B3 w)) (by omega) b1) ?_
 rintro _ W3 ⟨_,rfl,a5,bi,pi,ci,rfl,_,hI⟩
 refine xq 1 (congrArg V0 (show(if(200:Int)<fuel then(200:Int) else fuel:Int)=f2 from c3)) ?_
 refine xc 0 (args:=#[P0 bi,V0 f2]) (Zge _ bi pi _ ci (l.take ((l.length/256)*256)) f2 _ hI (by omega)) ?_
 rintro e W4 c6
 rcases c6 with ⟨c0,e0,v9,rfl,a4,d8⟩|⟨c0,p9,c9,Z9,rfl,a4,c5⟩
 ·refine xa 4 [V0 0,V0 0,V0 0,V0 0,S0] 24 fun b5 W5 n5=>?_
  refine xa 0 [V0 0,V0 0,V0 0,V0 0,V0 0,V0 0,V0 0,V0 0,V0 0,V0 0,V0 0] 58 fun b6 W6 n6=>?_
  have k5:=n5.blk.below n6.below
  refine xsv 0 k5 [V0 0,V0 0,V0 0,V0 0,S0] fun W7 u7 k7=>?_
  have g5:=n5.ge (bln a5 a4)
  have k6:=u7.blkT n6.blk k5 (by decide)
  refine xsv 0 k6 [V0 0,V0 0,V0 0,V0 0,V0 0,V0 0,V0 0,V0 0,V0 0,V0 0,V0 0] fun W8 u8 k8=>?_
  have g6:=n6.ge (bln (bln a5 a4) n5.below)
  have b2:=u8.blkT k7 k6 (by decide)
  refine xlv 13 b2.rp ?_
  refine xr 1 (args:=#[.agg #[V0 0,V0 0,V0 0,V0 0,S0],.agg #[V0 0,V0 0,V0 0,V0 0,S0]]) (Zcj _) fun W9 c1=>?_
  have b3:=k8.below c1
  refine xlv 1 b3.rp ?_
  refine xr 4 (args:=#[]) (Tl _) fun d9 b7=>?_
  have hB:=bln (bln (u8.below (u7.below (bln (bln (bln a5 a4) n5.below) n6.below) g5) g6) c1) b7
  exact xe 6 (.bool true) ⟨rfl,hB⟩
 refine xa 4 [V0 0,V0 0,V0 0,V0 0,S0] 24 fun e1 d3 a8=>?_
 refine xa 0 [V0 0,V0 0,V0 0,V0 0,V0 0,V0 0,V0 0,V0 0,V0 0,V0 0,V0 0] 58 fun d4 d2 a6=>?_
 have b4:=a8.blk.below a6.below
 refine xsv 0 b4 [V0 (((Zf (inB (l.take ((l.length/256)*256)) 0))).tx),V0 (((Zf (inB (l.take ((l.length/256)*256)) 0))).time),V0 (((Zf (inB (l.take ((l.length/256)*256)) 0))).unit),V0 (((Zf (inB (l.take ((l.length/256)*256)) 0))).data),.slice p9 ((Ra (l.take ((l.length/256)*256)) f2).2.2.length) c9] fun d6 b9 c2=>?_
 have d0:=a8.ge (bln a5 a4)
 have a9:=b9.blkT a6.blk b4 (by decide)
 refine xsv 0 a9 [V0 (((Zf (inB (l.take ((l.length/256)*256)) 0))).tx),V0 (((Zf (inB (l.take ((l.length/256)*256)) 0))).time),V0 (((Zf (inB (l.take ((l.length/256)*256)) 0))).unit),V0 (((Zf (inB (l.take ((l.length/256)*256)) 0))).data),V0 (((Zf (inB (l.take ((l.length/256)*256)) 0))).blocks),V0 (((Zf (inB (l.take ((l.length/256)*256)) 0))).top),V0 (((Zf (inB (l.take ((l.length/256)*256)) 0))).details),V0 (((Zf (inB (l.take ((l.length/256)*256)) 0))).dslots),V0 (((Zf (inB (l.take ((l.length/256)*256)) 0))).dover),V0 (((Zf (inB (l.take ((l.length/256)*256)) 0))).mindex),V0 (((Zf (inB (l.take ((l.length/256)*256)) 0))).mover)] fun e3 b8 d1=>?_
 have c7:=a6.ge (bln (bln a5 a4) a8.below)
 have a1:=b8.blkT c2 a9 (by decide)
 refine xlv 15 a1.rp ?_
 have a7:=(((c5.below a8.below).below a6.below).only (Ze.of_upd (T:=[24]) b9 b4 (by decide)) (by decide)).only (Ze.of_upd (T:=[58]) b8 a9 (by decide)) (by decide)
 refine xr 0 (args:=#[.agg #[V0 (((Zf (inB (l.take ((l.length/256)*256)) 0))).tx),V0 (((Zf (inB (l.take ((l.length/256)*256)) 0))).time),V0 (((Zf (inB (l.take ((l.length/256)*256)) 0))).unit),V0 (((Zf (inB (l.take ((l.length/256)*256)) 0))).data),.slice p9 ((Ra (l.take ((l.length/256)*256)) f2).2.2.length) c9]]) (Ii (Ra (l.take ((l.length/256)*256)) f2) p9 c9 _ (Zf (inB (l.take ((l.length/256)*256)) 0)).tx (Zf (inB (l.take ((l.length/256)*256)) 0)).time (Zf (inB (l.take ((l.length/256)*256)) 0)).unit (Zf (inB (l.take ((l.length/256)*256)) 0)).data Z9 _ rfl a7 (poolO_ok c0)) fun e2 a3=>?_
 have a0:=a1.below a3
 refine xb 3 3 a0 ?_
 have a2:=d1.below a3
 refine xb 1 3 a2 ?_
 refine xgk 3 [42,43,44] (show((((Zf (inB (l.take ((l.length/256)*256)) 0))).data==((Zf (inB (l.take ((l.length/256)*256)) 0))).data):Bool)=true from by simp) ?_
 refine xb 1 0 a0 ?_
 refine xb 1 0 a2 ?_
 refine xgk 3 [49,50,51] (show((((Zf (inB (l.take ((l.length/256)*256)) 0))).tx==((Zf (inB (l.take ((l.length/256)*256)) 0))).tx):Bool)=true from by simp) ?_
 refine xr 0 (args:=#[]) (Tl _) fun d7 b0=>?_
 have hB:=bln (bln (b8.below (b9.below (bln (bln (bln a5 a4) a8.below) a6.below) d0) c7) a3) b0
 exact xe 5 (.bool true) ⟨rfl,hB⟩
end Go.Proofs.YtgphgaehfdfjjaaGreat
namespace Go.Proofs.YtgphgaehfdfjjaaGreat
set_option maxHeartbeats 8000000
set_option maxRecDepth 100000
open Go.ChangeShapes Go.WideShapes Go.ChangeAt Go.RowKit Go.Joins
set_option linter.unusedVariables false
theorem Za6{H:Type}{enc:TypeId×Value→H}{P:Program}{W:World}{r:Reach}{b0:Nat}{t e:TypeId}{v:Value}{d:DataW H}{p:List MemPlace}(ht:P.underlying t=some (.slice e))(he:P.underlying e=some (.int .u8))(hC:P.cellsOf e=1)
 (hv:Value.okWide P W r b0 t v) (h:DataW.Trod enc P W 0 (fun _=>true) true t v d p):∃ l,Bys W v l:=by
 obtain⟨a,a3,a7,rfl⟩:=okWide_slice ht hv
 obtain⟨b1,hf⟩:=h
 rcases open_ints ht he hC hf with ⟨a1,_⟩|⟨x,l,c,zs,a1,_,hl,hm,hz,_,a0,a9⟩
 ·simp[Value.cells] at a1
  obtain⟨rfl,rfl,rfl⟩:=a1
  exact⟨[],.inl ⟨_,_,rfl,rfl,rfl⟩⟩
 ·simp[Value.cells] at a1
  obtain⟨rfl,rfl,rfl⟩:=a1
  have b3:zs.length=a7:=by simpa using hz
  by_cases h0:a3=0
  ·subst h0
   exact⟨[],.inl ⟨_,_,rfl,rfl,rfl⟩⟩
  ·obtain⟨b,b2,a6⟩:=x
   have hc:=a0 0 (by omega)
   have a2:a6=none:=by simpa [Addr.add] using World.cell?_spot hc
   subst a2
   have a4:((zs.take a3).map fun n=>UInt8.ofNat n.toNat).length=a3:=by simp;omega
   refine⟨(zs.take a3).map fun n=>UInt8.ofNat n.toNat,.inr ⟨b,b2,a7,by rw[a4],by omega,hm,fun j x hj=>?_⟩⟩
   have a8:j<a3:=by have:=(List.getElem?_eq_some_iff.1 hj).1;simp at this;omega
   have e1:zs[j]? = some zs[j]:=List.getElem?_eq_getElem (by omega)
   have hw:=a9 zs[j] (List.getElem_mem _)
   have a5:=a0 j (by omega)
   have e2:zs.getD j 0=zs[j]:=by simp[List.getD,e1]
   rw[e2] at a5
   have hx:x=.int .u8 zs[j]:=by
    rw[List.getElem?_map,List.getElem?_map,List.getElem?_take_of_lt a8,e1] at hj
    simp only[Option.map_some,Option.some.injEq] at hj
    rw[←hj]
    have hb:0≤zs[j]∧zs[j]≤255:=by simpa [Lit.wf,IntKind.min,IntKind.max,IntKind.signed,IntKind.bits] using hw
    have h3:(zs[j].toNat%256:Nat)=zs[j].toNat:=Nat.mod_eq_of_lt (by omega)
    simp only[bv,UInt8.toNat_ofNat']
    rw[show(2 ^ 8:Nat)=256 from rfl,h3,Int.toNat_of_nonneg hb.1]
   subst hx
   by_cases hj0:j=0
   ·subst hj0;simpa [Addr.add] using a5
   ·simpa [Addr.add,hj0] using a5
end Go.Proofs.YtgphgaehfdfjjaaGreat
