/- The document's answer for layer 14: Scan. -/
import Derived.Laws.StructEq
import Derived.Test.YtegcamkgeacjfaaGreatDoorMg4
namespace Go.Proofs.YtegcamkgeacjfaaGreatDoor
set_option maxHeartbeats 8000000
set_option maxRecDepth 100000
open Go.RowKit Go.Extern.Stop Go.Stop Go.Extern
set_option linter.unusedVariables false
attribute [local irreducible] wpList wpAnyH Code.wp Oper.wp Go
theorem Ze7(B bm:Nat)(p:O0)(k c:Nat)(l:Bl)(root tree fuel:Int)(w:World)(hI:RefI B bm p k c l w)(hfu:fuel≤1000) :
 C0 54 #[P0 bm,V0 root,V0 tree,V0 fuel] w (Zfq (Zd l root tree fuel) w):=by
 refine zin 186 Tryz.func54 ?_
 refine xa 2 [S0,S0,V0 0,V0 0,S0] 119 fun b1 W1 n1=>?_
 refine xa 5 [S0,S0,V0 0,V0 0,S0] 119 fun b2 W2 n2=>?_
 have a7:=n2.ne n1.blk
 refine xsv 0 n2.blk [S0,S0,V0 0,V0 0,S0] fun W3 u3 k3=>?_
 have g2:=n2.ge n1.below
 refine xbs 7 1 [V0 root,V0 0,V0 281474976710656,S0,V0 0] 216 fun b4 W4 n4=>?_
 have g4:=n4.ge (u3.below (bln n1.below n2.below) g2)
 have yx:Mj w.heap.size W4 (S1 b4) 1 [⟨root,0,281474976710656,[],0,none,0⟩]:=Mj.of (Xc (size:=5) (n:=1) n4.blk g4 rfl (by decide)) rfl
 have th:=(((hI.below n1.below).below n2.below).only (Ze.of_upd (T:=[119]) u3 n2.blk (by decide)) (by decide)).below n4.below
 have hB:=bln (u3.below (bln n1.below n2.below) g2) n4.below
 have ur:=(u3.blk (n1.blk.below n2.below) (Ne.symm (Ne.symm a7))).below n4.below
 have su:=k3.below n4.below
 refine zl 5 186 (fun zm bc V=>∃ (s:WS) (ts:List Wt) (pe pb pf:O0) (ce cb cf:Nat) (fv:List Ft) (aw:O0) (cw:Nat),bc=[(0,P0 bm),(2,V0 tree),(3,V0 fuel),(8,P0 b1),(9,P0 b2),(10,.slice aw ts.length cw)]∧zm=20*(fuel.toNat-s.looked)+ts.length∧B0 w V∧Blk V b1 ([S0,S0,V0 0,V0 0,S0]) 119∧Blk V b2 ([.slice pe s.es.length ce,.slice pb s.bs.length cb,V0 s.deep,V0 (s.looked:Int),.slice pf fv.length cf]) 119∧V.ownsRow w.heap.size 123 3 (.slice pe s.es.length ce) s.es.length (s.es.flatMap Vt)∧V.ownsRow w.heap.size 3 1 (.slice pb s.bs.length cb) s.bs.length (s.bs.map V0)∧V.ownsRow w.heap.size 35 2 (.slice pf fv.length cf) fv.length (fv.flatMap Bu)∧Mj w.heap.size V aw cw ts∧Yf w.heap.size V (.slice pb s.bs.length cb) (ts.map Zb9++fv.map Zhe)∧RefI B bm p k c l V∧WaitOk l tree fuel (Zd l root tree fuel) ts s∧fv.map Yd=s.fs) ⟨ws0,[⟨root,0,281474976710656,[],0,none,0⟩],none,none,none,0,0,0,[],(S1 b4),1,rfl,rfl,hB,ur,su,World.ownsRow_nil _ _ _ _,World.ownsRow_nil _ _ _ _,World.ownsRow_nil _ _ _ _,yx,(fun x hx=>by rw[show x=Zb9 ⟨root,0,281474976710656,[],0,none,0⟩ from List.mem_singleton.1 hx];exact⟨World.ownsRow_nil _ _ _ _,Vg.nil _⟩),th,wait0 l root tree fuel,rfl⟩ ?_
 rintro _ _ W5 ⟨s,ts,pe,pb,pf,ce,cb,cf,fv,aw,cw,rfl,rfl,p6,b0,m2,o1,iu,p8,xy,vh,hI,rz,n8⟩ J5 v6 r5
 have tq:=rz.grow
 obtain⟨hfe,hfb,hff⟩:=Gw l root tree fuel hfu
 have hfl:fv.length=s.fs.length:=by rw[←n8];simp
 have hg1:=tq.1
 have hg2:=tq.2.1
 have hg3:=tq.2.2
 have xv:=rz.few
 refine xid 8 ((ts.length:Int)>(0:Int)) (fun ss=>?_) (fun ss=>?_)
 ·obtain⟨t,r,j9⟩:∃ t r,ts=t::r:=by
   cases ts with
   | nil=>simp at ss
   | cons t r=>exact⟨t,r,rfl⟩
  have e3:WaitOk l tree fuel (Zd l root tree fuel) (t::r) s:=j9▸rz
  have hwl:t.way.length≤16:=e3.way t List.mem_cons_self
  have bf:ts.length=r.length+1:=by rw[j9];rfl
  have q9:=Mj.at_ xy
  have z9:Yf w.heap.size W5 (.slice pb s.bs.length cb) ((t::r).map Zb9++fv.map Zhe):=by rw[←j9];exact vh
  refine xx 6 _ ts.length 0 5 (Sts.cell (q9.sts j9) Nh t (k:=0) (i:=0) (by simp) rfl).1 ?_
  refine xlv 0 (Sts.rp (k:=0) (q9.sts j9) Nh t (by simp) (by decide)) ?_
  refine xa 0 [V0 0,V0 0,V0 0,S0,V0 0] 216 fun b7 W7 n7=>?_
  have g7:=n7.ge p6
  refine xsv 0 n7.blk [V0 t.no,V0 t.lo,V0 t.hi,.slice t.wa t.way.length t.wc,V0 t.ft] fun W8 u8 k8=>?_
  refine xsL 5 (fun _ _ _ _ zo zx zy V=>Qi (k:=1) (b:=aw) (n:=ts.length) (c:=cw) (i:=1) (ki:=.i64) 5 zo zx zy rfl (by omega) Tryz.underlying217 (by kernel_rfl) V) ?_
  refine xb 7 4 k8 ?_
  refine xin 3 t.ft (0:Int) (fun uj=>?_) (fun uj=>?_)
  ·have k7:=uj
   refine xd 1 (.t w.heap.size [35,119]) ?_
   have gs:=k8.below (Za W8)
   refine xbt (.e [0,2] 3) 3 w.heap.size [35,119] gs ?_
   refine xbt (.e [4] 5) 0 w.heap.size [35,119] gs ?_
   refine xbt (.e [6] 7) 4 w.heap.size [35,119] gs ?_
   refine xm2 0 1 8 ?_ ?_
   ·have r0:=(u8.blkT (m2.below n7.below) n7.blk (by decide)).below (Za W8)
    refine xb 0 4 r0 ?_
    have bo:=Zb (u8.own2 (Zb iu n7.below) n7.blk (by decide)) (Za W8)
    have rh:=bln (u8.below (bln p6 n7.below) g7) (Za W8)
    have j2:=bo
    have g6:=rh.size
    refine yc (.o [] 8) (args:=#[V0 t.no,V0 t.ft]) (.t w.heap.size [35,119]) (Px t.no t.ft _ k7) ?_
    rintro _ W10 ⟨fa,fc,rfl,l8,t9⟩
    refine⟨(SF.of_below _ l8),?_⟩
    have da:=(((z9.below n7.below).only (Ze.of_upd (T:=[216]) u8 n7.blk (by decide)) (by decide)).below (Za W8)).below l8
    refine yc (.o [] 9) (args:=#[.slice t.wa t.way.length t.wc,.agg #[.slice fa 1 fc,V0 t.ft]]) (.t w.heap.size [35,119]) (Qh t.wa t.wc t.way t.ft _ fa fc t.no _ k7 (Yf.hd da).ints (by omega) t9) ?_
    rintro _ W11 ⟨a5,a6,rfl,l7,i3⟩
    refine⟨(SF.of_below _ l7),?_⟩
    have m0:=i3.apart j2 (Nat.le_refl _)
    refine xbs (.o [] 10) 1 [.slice a5 ((t.way++[t.no]).length) a6,V0 t.ft] 35 fun b12 W12 t7=>?_
    have pz:=bln (bln rh l8) l7
    have g12:=t7.ge pz
    have du:=Zb (Zb (Zb (u8.own2 (Zb p8 n7.below) n7.blk (by decide)) (Za W8)) l8) l7
    have ry:=Zx du t7
    have g8:=Zb du t7.below
    have jt:=bln pz t7.below
    refine ybi (.o [] 11) (.t w.heap.size [35,119]) fun _ _ _ _ zJ zQ zo zx zy zK=>Zw (m:=1) (news:=[.slice a5 ((t.way++[t.no]).length) a6,V0 t.ft]) (.agg #[S0,V0 0]) 2 32 ((fv++[(Ft.mk (t.way++[t.no]) t.ft a5 a6)]).length) (((fv++[(Ft.mk (t.way++[t.no]) t.ft a5 a6)]).flatMap Bu)) zo Tryz.underlying117 (by kernel_rfl) rfl (by decide) zx g8 zy (t7.blk.sl 1 1 (by decide) (by decide)) rfl (by simp[Value.oneCell']) (by unfold maxLen;omega) (by omega) jt.size (by simp) (by rw[List.flatMap_append];rfl) fun pj mf W13 wd n5 nc=>?_
    refine zK _ _ (Zu nc n5 g8 (by decide)) ?_
    have c1:=(((r0.below l8).below l7).below t7.below).grown n5 g8 (by decide)
    refine ys (.o [12] 13) c1 [.slice pe s.es.length ce,.slice pb s.bs.length cb,V0 s.deep,V0 (s.looked:Int),.slice pj ((fv++[(Ft.mk (t.way++[t.no]) t.ft a5 a6)]).length) mf] (.t w.heap.size [35,119]) fun W14 al wt=>⟨(Zp al c1 g2 (by decide)),?_⟩
    refine xv1 5 10 (show(.slice (Qu aw 1 cw 5) (ts.length-1) (cw-1):Value)=.slice (Qu aw 1 cw 5) r.length (cw-1) from by rw[j9];rfl) ?_
    have le:=(((((((q9.below n7.below).updN u8 n7 rfl).below (Za W8)).below l8).below l7).below t7.below).only (Ze.of_grown (T:=[35]) n5 g8 (by decide)) (by decide)).only (Ze.of_upd (T:=[119]) al c1 (by decide)) (by decide)
    have qs:=(((da.below l7).below t7.below).only (Ze.of_grown (T:=[35]) n5 g8 (by decide)) (by decide)).only (Ze.of_upd (T:=[119]) al c1 (by decide)) (by decide)
    have qt:=((i3.below t7.below).only (Ze.of_grown (T:=[35]) n5 g8 (by decide)) (by decide)).only (Ze.of_upd (T:=[119]) al c1 (by decide)) (by decide)
    have uw:=al.below (jt.trans nc) g2
    have av:=al.blk ((((((u8.blkT (b0.below n7.below) n7.blk (by decide)).below (Za W8)).below l8).below l7).below t7.below).grown n5 g8 (by decide)) (Ne.symm (Ne.symm a7))
    have px:=al.own2 (Zf (Zb (Zb (Zb (Zb (u8.own2 (Zb o1 n7.below) n7.blk (by decide)) (Za W8)) l8) l7) t7.below) n5 g8 (by decide)) c1 (by decide)
    have kv:=al.own2 (Zf (Zb (Zb (Zb bo l8) l7) t7.below) n5 g8 (by decide)) c1 (by decide)
    have kz:=al.own2 wd c1 (by decide)
    have tt:=(((((((hI.below n7.below).only (Ze.of_upd (T:=[216]) u8 n7.blk (by decide)) (by decide)).below (Za W8)).below l8).below l7).below t7.below).only (Ze.of_grown (T:=[35]) n5 g8 (by decide)) (by decide)).only (Ze.of_upd (T:=[119]) al c1 (by decide)) (by decide)
    refine ze 0 (v6 _ _ _ ⟨(Yn t.way [t.no] t.ft s),r,pe,pb,pj,ce,cb,mf,(fv++[(Ft.mk (t.way++[t.no]) t.ft a5 a6)]),(Qu aw 1 cw 5),(cw-1),rfl,rfl,uw,av,wt,px,kv,kz,(Np.tail le j9),(Yf.note (f:=(Ft.mk (t.way++[t.no]) t.ft a5 a6)) qs (qt.mono g6) m0),tt,e3.fault k7,Xw n8⟩ ?_)
    show 20*(fuel.toNat-s.looked)+r.length<20*(fuel.toNat-s.looked)+ts.length
    omega
   have t3:=Zb (u8.own2 (Zb iu n7.below) n7.blk (by decide)) (Za W8)
   have ax:=bln (u8.below (bln p6 n7.below) g7) (Za W8)
   have j2:=t3
   have g6:=ax.size
   refine yc 0 (args:=#[V0 t.no,V0 t.ft]) (.t w.heap.size [35,119]) (Px t.no t.ft _ k7) ?_
   rintro _ W15 ⟨fa,fc,rfl,b6,t9⟩
   refine⟨(SF.of_below _ b6),?_⟩
   refine xm2 0 1 9 ?_ ?_
   ·have r1:=((u8.blkT (m2.below n7.below) n7.blk (by decide)).below (Za W8)).below b6
    refine xb 0 4 r1 ?_
    have ej:=(((z9.below n7.below).only (Ze.of_upd (T:=[216]) u8 n7.blk (by decide)) (by decide)).below (Za W8)).below b6
    refine yc (.o [] 9) (args:=#[.slice t.wa t.way.length t.wc,.agg #[.slice fa 1 fc,V0 t.ft]]) (.t w.heap.size [35,119]) (Qh t.wa t.wc t.way t.ft _ fa fc t.no _ k7 (Yf.hd ej).ints (by omega) t9) ?_
    rintro _ W16 ⟨a5,a6,rfl,l6,i3⟩
    refine⟨(SF.of_below _ l6),?_⟩
    have m0:=i3.apart j2 (Nat.le_refl _)
    refine xbs (.o [] 10) 1 [.slice a5 ((t.way++[t.no]).length) a6,V0 t.ft] 35 fun b17 W17 t5=>?_
    have mu:=bln (bln ax b6) l6
    have g17:=t5.ge mu
    have dk:=Zb (Zb (Zb (u8.own2 (Zb p8 n7.below) n7.blk (by decide)) (Za W8)) b6) l6
    have sj:=Zx dk t5
    have h3:=Zb dk t5.below
    have nw:=bln mu t5.below
    refine ybi (.o [] 11) (.t w.heap.size [35,119]) fun _ _ _ _ zJ zQ zo zx zy zK=>Zw (m:=1) (news:=[.slice a5 ((t.way++[t.no]).length) a6,V0 t.ft]) (.agg #[S0,V0 0]) 2 32 ((fv++[(Ft.mk (t.way++[t.no]) t.ft a5 a6)]).length) (((fv++[(Ft.mk (t.way++[t.no]) t.ft a5 a6)]).flatMap Bu)) zo Tryz.underlying117 (by kernel_rfl) rfl (by decide) zx h3 zy (t5.blk.sl 1 1 (by decide) (by decide)) rfl (by simp[Value.oneCell']) (by unfold maxLen;omega) (by omega) nw.size (by simp) (by rw[List.flatMap_append];rfl) fun mi jv W18 yr m8 mw=>?_
    refine zK _ _ (Zu mw m8 h3 (by decide)) ?_
    have c0:=((r1.below l6).below t5.below).grown m8 h3 (by decide)
    refine ys (.o [12] 13) c0 [.slice pe s.es.length ce,.slice pb s.bs.length cb,V0 s.deep,V0 (s.looked:Int),.slice mi ((fv++[(Ft.mk (t.way++[t.no]) t.ft a5 a6)]).length) jv] (.t w.heap.size [35,119]) fun W19 aq wv=>⟨(Zp aq c0 g2 (by decide)),?_⟩
    refine xv1 5 10 (show(.slice (Qu aw 1 cw 5) (ts.length-1) (cw-1):Value)=.slice (Qu aw 1 cw 5) r.length (cw-1) from by rw[j9];rfl) ?_
    have pt:=(((((((q9.below n7.below).updN u8 n7 rfl).below (Za W8)).below b6).below l6).below t5.below).only (Ze.of_grown (T:=[35]) m8 h3 (by decide)) (by decide)).only (Ze.of_upd (T:=[119]) aq c0 (by decide)) (by decide)
    have nu:=(((ej.below l6).below t5.below).only (Ze.of_grown (T:=[35]) m8 h3 (by decide)) (by decide)).only (Ze.of_upd (T:=[119]) aq c0 (by decide)) (by decide)
    have mo:=((i3.below t5.below).only (Ze.of_grown (T:=[35]) m8 h3 (by decide)) (by decide)).only (Ze.of_upd (T:=[119]) aq c0 (by decide)) (by decide)
    have st:=aq.below (nw.trans mw) g2
    have bg:=aq.blk ((((((u8.blkT (b0.below n7.below) n7.blk (by decide)).below (Za W8)).below b6).below l6).below t5.below).grown m8 h3 (by decide)) (Ne.symm (Ne.symm a7))
    have ph:=aq.own2 (Zf (Zb (Zb (Zb (Zb (u8.own2 (Zb o1 n7.below) n7.blk (by decide)) (Za W8)) b6) l6) t5.below) m8 h3 (by decide)) c0 (by decide)
    have qn:=aq.own2 (Zf (Zb (Zb (Zb t3 b6) l6) t5.below) m8 h3 (by decide)) c0 (by decide)
    have ji:=aq.own2 yr c0 (by decide)
    have ub:=(((((((hI.below n7.below).only (Ze.of_upd (T:=[216]) u8 n7.blk (by decide)) (by decide)).below (Za W8)).below b6).below l6).below t5.below).only (Ze.of_grown (T:=[35]) m8 h3 (by decide)) (by decide)).only (Ze.of_upd (T:=[119]) aq c0 (by decide)) (by decide)
    refine ze 0 (v6 _ _ _ ⟨(Yn t.way [t.no] t.ft s),r,pe,pb,mi,ce,cb,jv,(fv++[(Ft.mk (t.way++[t.no]) t.ft a5 a6)]),(Qu aw 1 cw 5),(cw-1),rfl,rfl,st,bg,wv,ph,qn,ji,(Np.tail pt j9),(Yf.note (f:=(Ft.mk (t.way++[t.no]) t.ft a5 a6)) nu (mo.mono g6) m0),ub,e3.fault k7,Xw n8⟩ ?_)
    show 20*(fuel.toNat-s.looked)+r.length<20*(fuel.toNat-s.looked)+ts.length
    omega
   have y0:=(((z9.below n7.below).only (Ze.of_upd (T:=[216]) u8 n7.blk (by decide)) (by decide)).below (Za W8)).below b6
   refine yc 0 (args:=#[.slice t.wa t.way.length t.wc,.agg #[.slice fa 1 fc,V0 t.ft]]) (.t w.heap.size [35,119]) (Qh t.wa t.wc t.way t.ft _ fa fc t.no _ k7 (Yf.hd y0).ints (by omega) t9) ?_
   rintro _ W20 ⟨a5,a6,rfl,e4,i3⟩
   refine⟨(SF.of_below _ e4),?_⟩
   have m0:=i3.apart j2 (Nat.le_refl _)
   refine xm2 0 1 10 ?_ ?_
   ·have s7:=(((u8.blkT (m2.below n7.below) n7.blk (by decide)).below (Za W8)).below b6).below e4
    refine xb 0 4 s7 ?_
    refine xbs (.o [] 10) 1 [.slice a5 ((t.way++[t.no]).length) a6,V0 t.ft] 35 fun b21 W21 t6=>?_
    have qc:=bln (bln ax b6) e4
    have g21:=t6.ge qc
    have bt:=Zb (Zb (Zb (u8.own2 (Zb p8 n7.below) n7.blk (by decide)) (Za W8)) b6) e4
    have rx:=Zx bt t6
    have h1:=Zb bt t6.below
    have bh:=bln qc t6.below
    refine ybi (.o [] 11) (.t w.heap.size [35,119]) fun _ _ _ _ zJ zQ zo zx zy zK=>Zw (m:=1) (news:=[.slice a5 ((t.way++[t.no]).length) a6,V0 t.ft]) (.agg #[S0,V0 0]) 2 32 ((fv++[(Ft.mk (t.way++[t.no]) t.ft a5 a6)]).length) (((fv++[(Ft.mk (t.way++[t.no]) t.ft a5 a6)]).flatMap Bu)) zo Tryz.underlying117 (by kernel_rfl) rfl (by decide) zx h1 zy (t6.blk.sl 1 1 (by decide) (by decide)) rfl (by simp[Value.oneCell']) (by unfold maxLen;omega) (by omega) bh.size (by simp) (by rw[List.flatMap_append];rfl) fun nl nx W22 wh n0 ky=>?_
    refine zK _ _ (Zu ky n0 h1 (by decide)) ?_
    have c2:=(s7.below t6.below).grown n0 h1 (by decide)
    refine ys (.o [12] 13) c2 [.slice pe s.es.length ce,.slice pb s.bs.length cb,V0 s.deep,V0 (s.looked:Int),.slice nl ((fv++[(Ft.mk (t.way++[t.no]) t.ft a5 a6)]).length) nx] (.t w.heap.size [35,119]) fun W23 ao zu=>⟨(Zp ao c2 g2 (by decide)),?_⟩
    refine xv1 5 10 (show(.slice (Qu aw 1 cw 5) (ts.length-1) (cw-1):Value)=.slice (Qu aw 1 cw 5) r.length (cw-1) from by rw[j9];rfl) ?_
    have ou:=(((((((q9.below n7.below).updN u8 n7 rfl).below (Za W8)).below b6).below e4).below t6.below).only (Ze.of_grown (T:=[35]) n0 h1 (by decide)) (by decide)).only (Ze.of_upd (T:=[119]) ao c2 (by decide)) (by decide)
    have pc:=(((y0.below e4).below t6.below).only (Ze.of_grown (T:=[35]) n0 h1 (by decide)) (by decide)).only (Ze.of_upd (T:=[119]) ao c2 (by decide)) (by decide)
    have qg:=((i3.below t6.below).only (Ze.of_grown (T:=[35]) n0 h1 (by decide)) (by decide)).only (Ze.of_upd (T:=[119]) ao c2 (by decide)) (by decide)
    have jp:=ao.below (bh.trans ky) g2
    have bd:=ao.blk ((((((u8.blkT (b0.below n7.below) n7.blk (by decide)).below (Za W8)).below b6).below e4).below t6.below).grown n0 h1 (by decide)) (Ne.symm (Ne.symm a7))
    have ku:=ao.own2 (Zf (Zb (Zb (Zb (Zb (u8.own2 (Zb o1 n7.below) n7.blk (by decide)) (Za W8)) b6) e4) t6.below) n0 h1 (by decide)) c2 (by decide)
    have rb:=ao.own2 (Zf (Zb (Zb (Zb t3 b6) e4) t6.below) n0 h1 (by decide)) c2 (by decide)
    have rl:=ao.own2 wh c2 (by decide)
    have ud:=(((((((hI.below n7.below).only (Ze.of_upd (T:=[216]) u8 n7.blk (by decide)) (by decide)).below (Za W8)).below b6).below e4).below t6.below).only (Ze.of_grown (T:=[35]) n0 h1 (by decide)) (by decide)).only (Ze.of_upd (T:=[119]) ao c2 (by decide)) (by decide)
    refine ze 0 (v6 _ _ _ ⟨(Yn t.way [t.no] t.ft s),r,pe,pb,nl,ce,cb,nx,(fv++[(Ft.mk (t.way++[t.no]) t.ft a5 a6)]),(Qu aw 1 cw 5),(cw-1),rfl,rfl,jp,bd,zu,ku,rb,rl,(Np.tail ou j9),(Yf.note (f:=(Ft.mk (t.way++[t.no]) t.ft a5 a6)) pc (qg.mono g6) m0),ud,e3.fault k7,Xw n8⟩ ?_)
    show 20*(fuel.toNat-s.looked)+r.length<20*(fuel.toNat-s.looked)+ts.length
    omega
   refine xbs 0 1 [.slice a5 ((t.way++[t.no]).length) a6,V0 t.ft] 35 fun b24 W24 v3=>?_
   have ec:=bln (bln ax b6) e4
   have g24:=v3.ge ec
   have cy:=Zb (Zb (Zb (u8.own2 (Zb p8 n7.below) n7.blk (by decide)) (Za W8)) b6) e4
   have sn:=Zx cy v3
   have s2:=((((u8.blkT (m2.below n7.below) n7.blk (by decide)).below (Za W8)).below b6).below e4).below v3.below
   refine xb (.o [] 1) 4 s2 ?_
   have g9:=Zb cy v3.below
   have ef:=bln ec v3.below
   refine ybi (.o [] 11) (.t w.heap.size [35,119]) fun _ _ _ _ zJ zQ zo zx zy zK=>Zw (m:=1) (news:=[.slice a5 ((t.way++[t.no]).length) a6,V0 t.ft]) (.agg #[S0,V0 0]) 2 32 ((fv++[(Ft.mk (t.way++[t.no]) t.ft a5 a6)]).length) (((fv++[(Ft.mk (t.way++[t.no]) t.ft a5 a6)]).flatMap Bu)) zo Tryz.underlying117 (by kernel_rfl) rfl (by decide) zx g9 zy (v3.blk.sl 1 1 (by decide) (by decide)) rfl (by simp[Value.oneCell']) (by unfold maxLen;omega) (by omega) ef.size (by simp) (by rw[List.flatMap_append];rfl) fun pr rm W25 zv m6 ll=>?_
   refine zK _ _ (Zu ll m6 g9 (by decide)) ?_
   have b9:=s2.grown m6 g9 (by decide)
   refine ys (.o [12] 13) b9 [.slice pe s.es.length ce,.slice pb s.bs.length cb,V0 s.deep,V0 (s.looked:Int),.slice pr ((fv++[(Ft.mk (t.way++[t.no]) t.ft a5 a6)]).length) rm] (.t w.heap.size [35,119]) fun W26 ap wb=>⟨(Zp ap b9 g2 (by decide)),?_⟩
   refine xv1 5 10 (show(.slice (Qu aw 1 cw 5) (ts.length-1) (cw-1):Value)=.slice (Qu aw 1 cw 5) r.length (cw-1) from by rw[j9];rfl) ?_
   have qf:=(((((((q9.below n7.below).updN u8 n7 rfl).below (Za W8)).below b6).below e4).below v3.below).only (Ze.of_grown (T:=[35]) m6 g9 (by decide)) (by decide)).only (Ze.of_upd (T:=[119]) ap b9 (by decide)) (by decide)
   have nr:=(((y0.below e4).below v3.below).only (Ze.of_grown (T:=[35]) m6 g9 (by decide)) (by decide)).only (Ze.of_upd (T:=[119]) ap b9 (by decide)) (by decide)
   have pp:=((i3.below v3.below).only (Ze.of_grown (T:=[35]) m6 g9 (by decide)) (by decide)).only (Ze.of_upd (T:=[119]) ap b9 (by decide)) (by decide)
   have mv:=ap.below (ef.trans ll) g2
   have az:=ap.blk ((((((u8.blkT (b0.below n7.below) n7.blk (by decide)).below (Za W8)).below b6).below e4).below v3.below).grown m6 g9 (by decide)) (Ne.symm (Ne.symm a7))
   have re:=ap.own2 (Zf (Zb (Zb (Zb (Zb (u8.own2 (Zb o1 n7.below) n7.blk (by decide)) (Za W8)) b6) e4) v3.below) m6 g9 (by decide)) b9 (by decide)
   have qk:=ap.own2 (Zf (Zb (Zb (Zb t3 b6) e4) v3.below) m6 g9 (by decide)) b9 (by decide)
   have lh:=ap.own2 zv b9 (by decide)
   have uv:=(((((((hI.below n7.below).only (Ze.of_upd (T:=[216]) u8 n7.blk (by decide)) (by decide)).below (Za W8)).below b6).below e4).below v3.below).only (Ze.of_grown (T:=[35]) m6 g9 (by decide)) (by decide)).only (Ze.of_upd (T:=[119]) ap b9 (by decide)) (by decide)
   refine ze 0 (v6 _ _ _ ⟨(Yn t.way [t.no] t.ft s),r,pe,pb,pr,ce,cb,rm,(fv++[(Ft.mk (t.way++[t.no]) t.ft a5 a6)]),(Qu aw 1 cw 5),(cw-1),rfl,rfl,mv,az,wb,re,qk,lh,(Np.tail qf j9),(Yf.note (f:=(Ft.mk (t.way++[t.no]) t.ft a5 a6)) nr (pp.mono g6) m0),uv,e3.fault k7,Xw n8⟩ ?_)
   show 20*(fuel.toNat-s.looked)+r.length<20*(fuel.toNat-s.looked)+ts.length
   omega
  have k7:=uj
  have a0:=u8.blkT (m2.below n7.below) n7.blk (by decide)
  refine xb 6 3 a0 ?_
  refine xid 4 ((s.looked:Int)≥fuel) (fun tz=>?_) (fun tz=>?_)
  ·have s3:fuel≤s.looked:=by omega
   refine xd 1 (.t w.heap.size [35,119]) ?_
   have lk:=k8.below (Za W8)
   refine xbt (.e [0,2] 3) 3 w.heap.size [35,119] lk ?_
   refine xbt (.e [4] 5) 0 w.heap.size [35,119] lk ?_
   refine xm2 0 1 6 ?_ ?_
   ·have p1:=a0.below (Za W8)
    refine xb 0 4 p1 ?_
    have ca:=Zb (u8.own2 (Zb iu n7.below) n7.blk (by decide)) (Za W8)
    have bi:=bln (u8.below (bln p6 n7.below) g7) (Za W8)
    have j2:=ca
    have g6:=bi.size
    refine yc (.o [] 6) (args:=#[V0 t.no,V0 12]) (.t w.heap.size [35,119]) (Px t.no 12 _ (by decide)) ?_
    rintro _ W28 ⟨fa,fc,rfl,p2,t9⟩
    refine⟨(SF.of_below _ p2),?_⟩
    have dn:=(((z9.below n7.below).only (Ze.of_upd (T:=[216]) u8 n7.blk (by decide)) (by decide)).below (Za W8)).below p2
    refine yc (.o [] 7) (args:=#[.slice t.wa t.way.length t.wc,.agg #[.slice fa 1 fc,V0 12]]) (.t w.heap.size [35,119]) (Qh t.wa t.wc t.way 12 _ fa fc t.no _ (by decide) (Yf.hd dn).ints (by omega) t9) ?_
    rintro _ W29 ⟨a5,a6,rfl,o6,i3⟩
    refine⟨(SF.of_below _ o6),?_⟩
    have m0:=i3.apart j2 (Nat.le_refl _)
    refine xbs (.o [] 8) 1 [.slice a5 ((t.way++[t.no]).length) a6,V0 12] 35 fun b30 W30 w8=>?_
    have cd:=bln (bln bi p2) o6
    have g30:=w8.ge cd
    have dh:=Zb (Zb (Zb (u8.own2 (Zb p8 n7.below) n7.blk (by decide)) (Za W8)) p2) o6
    have sf:=Zx dh w8
    have f1:=Zb dh w8.below
    have bj:=bln cd w8.below
    refine ybi (.o [] 9) (.t w.heap.size [35,119]) fun _ _ _ _ zJ zQ zo zx zy zK=>Zw (m:=1) (news:=[.slice a5 ((t.way++[t.no]).length) a6,V0 12]) (.agg #[S0,V0 0]) 2 32 ((fv++[(Ft.mk (t.way++[t.no]) 12 a5 a6)]).length) (((fv++[(Ft.mk (t.way++[t.no]) 12 a5 a6)]).flatMap Bu)) zo Tryz.underlying117 (by kernel_rfl) rfl (by decide) zx f1 zy (w8.blk.sl 1 1 (by decide) (by decide)) rfl (by simp[Value.oneCell']) (by unfold maxLen;omega) (by omega) bj.size (by simp) (by rw[List.flatMap_append];rfl) fun fn ip W31 zh q1 oc=>?_
    refine zK _ _ (Zu oc q1 f1 (by decide)) ?_
    have d0:=(((p1.below p2).below o6).below w8.below).grown q1 f1 (by decide)
    refine ys (.o [10] 11) d0 [.slice pe s.es.length ce,.slice pb s.bs.length cb,V0 s.deep,V0 (s.looked:Int),.slice fn ((fv++[(Ft.mk (t.way++[t.no]) 12 a5 a6)]).length) ip] (.t w.heap.size [35,119]) fun W32 ea xz=>⟨(Zp ea d0 g2 (by decide)),?_⟩
    refine xlv 4 xz.rp ?_
    have f9:=ea.blk ((((((u8.blkT (b0.below n7.below) n7.blk (by decide)).below (Za W8)).below p2).below o6).below w8.below).grown q1 f1 (by decide)) (Ne.symm (Ne.symm a7))
    refine xsv 0 f9 [.slice pe s.es.length ce,.slice pb s.bs.length cb,V0 s.deep,V0 (s.looked:Int),.slice fn ((fv++[(Ft.mk (t.way++[t.no]) 12 a5 a6)]).length) ip] fun W33 ja wf=>?_
    have g1:=n1.ge (B1 w)
    have lu:=ja.below (ea.below (bj.trans oc) g2) g1
    have mc:=ja.own2 (ea.own2 (Zf (Zb (Zb (Zb (Zb (u8.own2 (Zb o1 n7.below) n7.blk (by decide)) (Za W8)) p2) o6) w8.below) q1 f1 (by decide)) d0 (by decide)) f9 (by decide)
    have ns:=ja.own2 (ea.own2 (Zf (Zb (Zb (Zb ca p2) o6) w8.below) q1 f1 (by decide)) d0 (by decide)) f9 (by decide)
    have nf:=ja.own2 (ea.own2 zh d0 (by decide)) f9 (by decide)
    have po:=((((dn.below o6).below w8.below).only (Ze.of_grown (T:=[35]) q1 f1 (by decide)) (by decide)).only (Ze.of_upd (T:=[119]) ea d0 (by decide)) (by decide)).only (Ze.of_upd (T:=[119]) ja f9 (by decide)) (by decide)
    have qx:=(((i3.below w8.below).only (Ze.of_grown (T:=[35]) q1 f1 (by decide)) (by decide)).only (Ze.of_upd (T:=[119]) ea d0 (by decide)) (by decide)).only (Ze.of_upd (T:=[119]) ja f9 (by decide)) (by decide)
    refine xec 8 wf (.agg #[.slice pe s.es.length ce,.slice pb s.bs.length cb,V0 s.deep,V0 (s.looked:Int),.slice fn ((fv++[(Ft.mk (t.way++[t.no]) 12 a5 a6)]).length) ip]) ?_
    rw[e3.fuel k7 s3]
    exact⟨pe,pb,_,ce,cb,_,fv++[(Ft.mk (t.way++[t.no]) 12 a5 a6)],rfl,lu,mc,ns,nf,Xw n8,(Yf.note (f:=(Ft.mk (t.way++[t.no]) 12 a5 a6)) po (qx.mono g6) m0).sub (fun x hx=>List.mem_append.2 (.inr hx))⟩
   have q6:=Zb (u8.own2 (Zb iu n7.below) n7.blk (by decide)) (Za W8)
   have r6:=bln (u8.below (bln p6 n7.below) g7) (Za W8)
   have j2:=q6
   have g6:=r6.size
   refine yc 0 (args:=#[V0 t.no,V0 12]) (.t w.heap.size [35,119]) (Px t.no 12 _ (by decide)) ?_
   rintro _ W34 ⟨fa,fc,rfl,d8,t9⟩
   refine⟨(SF.of_below _ d8),?_⟩
   refine xm2 0 1 7 ?_ ?_
   ·have o5:=(a0.below (Za W8)).below d8
    refine xb 0 4 o5 ?_
    have y7:=(((z9.below n7.below).only (Ze.of_upd (T:=[216]) u8 n7.blk (by decide)) (by decide)).below (Za W8)).below d8
    refine yc (.o [] 7) (args:=#[.slice t.wa t.way.length t.wc,.agg #[.slice fa 1 fc,V0 12]]) (.t w.heap.size [35,119]) (Qh t.wa t.wc t.way 12 _ fa fc t.no _ (by decide) (Yf.hd y7).ints (by omega) t9) ?_
    rintro _ W35 ⟨a5,a6,rfl,o2,i3⟩
    refine⟨(SF.of_below _ o2),?_⟩
    have m0:=i3.apart j2 (Nat.le_refl _)
    refine xbs (.o [] 8) 1 [.slice a5 ((t.way++[t.no]).length) a6,V0 12] 35 fun b36 W36 y1=>?_
    have fd:=bln (bln r6 d8) o2
    have g36:=y1.ge fd
    have y9:=Zb (Zb (Zb (u8.own2 (Zb p8 n7.below) n7.blk (by decide)) (Za W8)) d8) o2
    have rv:=Zx y9 y1
    have e9:=Zb y9 y1.below
    have dz:=bln fd y1.below
    refine ybi (.o [] 9) (.t w.heap.size [35,119]) fun _ _ _ _ zJ zQ zo zx zy zK=>Zw (m:=1) (news:=[.slice a5 ((t.way++[t.no]).length) a6,V0 12]) (.agg #[S0,V0 0]) 2 32 ((fv++[(Ft.mk (t.way++[t.no]) 12 a5 a6)]).length) (((fv++[(Ft.mk (t.way++[t.no]) 12 a5 a6)]).flatMap Bu)) zo Tryz.underlying117 (by kernel_rfl) rfl (by decide) zx e9 zy (y1.blk.sl 1 1 (by decide) (by decide)) rfl (by simp[Value.oneCell']) (by unfold maxLen;omega) (by omega) dz.size (by simp) (by rw[List.flatMap_append];rfl) fun hf ii W37 yw q4 oi=>?_
    refine zK _ _ (Zu oi q4 e9 (by decide)) ?_
    have c9:=((o5.below o2).below y1.below).grown q4 e9 (by decide)
    refine ys (.o [10] 11) c9 [.slice pe s.es.length ce,.slice pb s.bs.length cb,V0 s.deep,V0 (s.looked:Int),.slice hf ((fv++[(Ft.mk (t.way++[t.no]) 12 a5 a6)]).length) ii] (.t w.heap.size [35,119]) fun W38 cg vw=>⟨(Zp cg c9 g2 (by decide)),?_⟩
    refine xlv 4 vw.rp ?_
    have g0:=cg.blk ((((((u8.blkT (b0.below n7.below) n7.blk (by decide)).below (Za W8)).below d8).below o2).below y1.below).grown q4 e9 (by decide)) (Ne.symm (Ne.symm a7))
    refine xsv 0 g0 [.slice pe s.es.length ce,.slice pb s.bs.length cb,V0 s.deep,V0 (s.looked:Int),.slice hf ((fv++[(Ft.mk (t.way++[t.no]) 12 a5 a6)]).length) ii] fun W39 iq xn=>?_
    have g1:=n1.ge (B1 w)
    have op:=iq.below (cg.below (dz.trans oi) g2) g1
    have qi:=iq.own2 (cg.own2 (Zf (Zb (Zb (Zb (Zb (u8.own2 (Zb o1 n7.below) n7.blk (by decide)) (Za W8)) d8) o2) y1.below) q4 e9 (by decide)) c9 (by decide)) g0 (by decide)
    have io:=iq.own2 (cg.own2 (Zf (Zb (Zb (Zb q6 d8) o2) y1.below) q4 e9 (by decide)) c9 (by decide)) g0 (by decide)
    have qw:=iq.own2 (cg.own2 yw c9 (by decide)) g0 (by decide)
    have fk:=((((y7.below o2).below y1.below).only (Ze.of_grown (T:=[35]) q4 e9 (by decide)) (by decide)).only (Ze.of_upd (T:=[119]) cg c9 (by decide)) (by decide)).only (Ze.of_upd (T:=[119]) iq g0 (by decide)) (by decide)
    have qo:=(((i3.below y1.below).only (Ze.of_grown (T:=[35]) q4 e9 (by decide)) (by decide)).only (Ze.of_upd (T:=[119]) cg c9 (by decide)) (by decide)).only (Ze.of_upd (T:=[119]) iq g0 (by decide)) (by decide)
    refine xec 8 xn (.agg #[.slice pe s.es.length ce,.slice pb s.bs.length cb,V0 s.deep,V0 (s.looked:Int),.slice hf ((fv++[(Ft.mk (t.way++[t.no]) 12 a5 a6)]).length) ii]) ?_
    rw[e3.fuel k7 s3]
    exact⟨pe,pb,_,ce,cb,_,fv++[(Ft.mk (t.way++[t.no]) 12 a5 a6)],rfl,op,qi,io,qw,Xw n8,(Yf.note (f:=(Ft.mk (t.way++[t.no]) 12 a5 a6)) fk (qo.mono g6) m0).sub (fun x hx=>List.mem_append.2 (.inr hx))⟩
   have q0:=(((z9.below n7.below).only (Ze.of_upd (T:=[216]) u8 n7.blk (by decide)) (by decide)).below (Za W8)).below d8
   refine yc 0 (args:=#[.slice t.wa t.way.length t.wc,.agg #[.slice fa 1 fc,V0 12]]) (.t w.heap.size [35,119]) (Qh t.wa t.wc t.way 12 _ fa fc t.no _ (by decide) (Yf.hd q0).ints (by omega) t9) ?_
   rintro _ W40 ⟨a5,a6,rfl,h9,i3⟩
   refine⟨(SF.of_below _ h9),?_⟩
   have m0:=i3.apart j2 (Nat.le_refl _)
   refine xm2 0 1 8 ?_ ?_
   ·have o0:=((a0.below (Za W8)).below d8).below h9
    refine xb 0 4 o0 ?_
    refine xbs (.o [] 8) 1 [.slice a5 ((t.way++[t.no]).length) a6,V0 12] 35 fun b41 W41 w2=>?_
    have bw:=bln (bln r6 d8) h9
    have g41:=w2.ge bw
    have z8:=Zb (Zb (Zb (u8.own2 (Zb p8 n7.below) n7.blk (by decide)) (Za W8)) d8) h9
    have si:=Zx z8 w2
    have f3:=Zb z8 w2.below
    have ek:=bln bw w2.below
    refine ybi (.o [] 9) (.t w.heap.size [35,119]) fun _ _ _ _ zJ zQ zo zx zy zK=>Zw (m:=1) (news:=[.slice a5 ((t.way++[t.no]).length) a6,V0 12]) (.agg #[S0,V0 0]) 2 32 ((fv++[(Ft.mk (t.way++[t.no]) 12 a5 a6)]).length) (((fv++[(Ft.mk (t.way++[t.no]) 12 a5 a6)]).flatMap Bu)) zo Tryz.underlying117 (by kernel_rfl) rfl (by decide) zx f3 zy (w2.blk.sl 1 1 (by decide) (by decide)) rfl (by simp[Value.oneCell']) (by unfold maxLen;omega) (by omega) ek.size (by simp) (by rw[List.flatMap_append];rfl) fun fi fh W42 o42 p7 rc=>?_
    refine zK _ _ (Zu rc p7 f3 (by decide)) ?_
    have d1:=(o0.below w2.below).grown p7 f3 (by decide)
    refine ys (.o [10] 11) d1 [.slice pe s.es.length ce,.slice pb s.bs.length cb,V0 s.deep,V0 (s.looked:Int),.slice fi ((fv++[(Ft.mk (t.way++[t.no]) 12 a5 a6)]).length) fh] (.t w.heap.size [35,119]) fun W43 bp k43=>⟨(Zp bp d1 g2 (by decide)),?_⟩
    refine xlv 4 k43.rp ?_
    have g5:=bp.blk ((((((u8.blkT (b0.below n7.below) n7.blk (by decide)).below (Za W8)).below d8).below h9).below w2.below).grown p7 f3 (by decide)) (Ne.symm (Ne.symm a7))
    refine xsv 0 g5 [.slice pe s.es.length ce,.slice pb s.bs.length cb,V0 s.deep,V0 (s.looked:Int),.slice fi ((fv++[(Ft.mk (t.way++[t.no]) 12 a5 a6)]).length) fh] fun W44 ix zg=>?_
    have g1:=n1.ge (B1 w)
    have ke:=ix.below (bp.below (ek.trans rc) g2) g1
    have ot:=ix.own2 (bp.own2 (Zf (Zb (Zb (Zb (Zb (u8.own2 (Zb o1 n7.below) n7.blk (by decide)) (Za W8)) d8) h9) w2.below) p7 f3 (by decide)) d1 (by decide)) g5 (by decide)
    have gz:=ix.own2 (bp.own2 (Zf (Zb (Zb (Zb q6 d8) h9) w2.below) p7 f3 (by decide)) d1 (by decide)) g5 (by decide)
    have qq:=ix.own2 (bp.own2 o42 d1 (by decide)) g5 (by decide)
    have fm:=((((q0.below h9).below w2.below).only (Ze.of_grown (T:=[35]) p7 f3 (by decide)) (by decide)).only (Ze.of_upd (T:=[119]) bp d1 (by decide)) (by decide)).only (Ze.of_upd (T:=[119]) ix g5 (by decide)) (by decide)
    have oy:=(((i3.below w2.below).only (Ze.of_grown (T:=[35]) p7 f3 (by decide)) (by decide)).only (Ze.of_upd (T:=[119]) bp d1 (by decide)) (by decide)).only (Ze.of_upd (T:=[119]) ix g5 (by decide)) (by decide)
    refine xec 8 zg (.agg #[.slice pe s.es.length ce,.slice pb s.bs.length cb,V0 s.deep,V0 (s.looked:Int),.slice fi ((fv++[(Ft.mk (t.way++[t.no]) 12 a5 a6)]).length) fh]) ?_
    rw[e3.fuel k7 s3]
    exact⟨pe,pb,_,ce,cb,_,fv++[(Ft.mk (t.way++[t.no]) 12 a5 a6)],rfl,ke,ot,gz,qq,Xw n8,(Yf.note (f:=(Ft.mk (t.way++[t.no]) 12 a5 a6)) fm (oy.mono g6) m0).sub (fun x hx=>List.mem_append.2 (.inr hx))⟩
   refine xbs 0 1 [.slice a5 ((t.way++[t.no]).length) a6,V0 12] 35 fun b45 W45 w4=>?_
   have ch:=bln (bln r6 d8) h9
   have g45:=w4.ge ch
   have w3:=Zb (Zb (Zb (u8.own2 (Zb p8 n7.below) n7.blk (by decide)) (Za W8)) d8) h9
   have sb:=Zx w3 w4
   have o7:=(((a0.below (Za W8)).below d8).below h9).below w4.below
   refine xb (.o [] 1) 4 o7 ?_
   have f2:=Zb w3 w4.below
   have cl:=bln ch w4.below
   refine ybi (.o [] 9) (.t w.heap.size [35,119]) fun _ _ _ _ zJ zQ zo zx zy zK=>Zw (m:=1) (news:=[.slice a5 ((t.way++[t.no]).length) a6,V0 12]) (.agg #[S0,V0 0]) 2 32 ((fv++[(Ft.mk (t.way++[t.no]) 12 a5 a6)]).length) (((fv++[(Ft.mk (t.way++[t.no]) 12 a5 a6)]).flatMap Bu)) zo Tryz.underlying117 (by kernel_rfl) rfl (by decide) zx f2 zy (w4.blk.sl 1 1 (by decide) (by decide)) rfl (by simp[Value.oneCell']) (by unfold maxLen;omega) (by omega) cl.size (by simp) (by rw[List.flatMap_append];rfl) fun gq hq W46 yl p5 nq=>?_
   refine zK _ _ (Zu nq p5 f2 (by decide)) ?_
   have c3:=o7.grown p5 f2 (by decide)
   refine ys (.o [10] 11) c3 [.slice pe s.es.length ce,.slice pb s.bs.length cb,V0 s.deep,V0 (s.looked:Int),.slice gq ((fv++[(Ft.mk (t.way++[t.no]) 12 a5 a6)]).length) hq] (.t w.heap.size [35,119]) fun W47 cs yd=>⟨(Zp cs c3 g2 (by decide)),?_⟩
   refine xlv 4 yd.rp ?_
   have f8:=cs.blk ((((((u8.blkT (b0.below n7.below) n7.blk (by decide)).below (Za W8)).below d8).below h9).below w4.below).grown p5 f2 (by decide)) (Ne.symm (Ne.symm a7))
   refine xsv 0 f8 [.slice pe s.es.length ce,.slice pb s.bs.length cb,V0 s.deep,V0 (s.looked:Int),.slice gq ((fv++[(Ft.mk (t.way++[t.no]) 12 a5 a6)]).length) hq] fun W48 iw k48=>?_
   have g1:=n1.ge (B1 w)
   have ms:=iw.below (cs.below (cl.trans nq) g2) g1
   have ob:=iw.own2 (cs.own2 (Zf (Zb (Zb (Zb (Zb (u8.own2 (Zb o1 n7.below) n7.blk (by decide)) (Za W8)) d8) h9) w4.below) p5 f2 (by decide)) c3 (by decide)) f8 (by decide)
   have hv:=iw.own2 (cs.own2 (Zf (Zb (Zb (Zb q6 d8) h9) w4.below) p5 f2 (by decide)) c3 (by decide)) f8 (by decide)
   have qj:=iw.own2 (cs.own2 yl c3 (by decide)) f8 (by decide)
   have hh:=((((q0.below h9).below w4.below).only (Ze.of_grown (T:=[35]) p5 f2 (by decide)) (by decide)).only (Ze.of_upd (T:=[119]) cs c3 (by decide)) (by decide)).only (Ze.of_upd (T:=[119]) iw f8 (by decide)) (by decide)
   have lf:=(((i3.below w4.below).only (Ze.of_grown (T:=[35]) p5 f2 (by decide)) (by decide)).only (Ze.of_upd (T:=[119]) cs c3 (by decide)) (by decide)).only (Ze.of_upd (T:=[119]) iw f8 (by decide)) (by decide)
   refine xec 8 k48 (.agg #[.slice pe s.es.length ce,.slice pb s.bs.length cb,V0 s.deep,V0 (s.looked:Int),.slice gq ((fv++[(Ft.mk (t.way++[t.no]) 12 a5 a6)]).length) hq]) ?_
   rw[e3.fuel k7 s3]
   exact⟨pe,pb,_,ce,cb,_,fv++[(Ft.mk (t.way++[t.no]) 12 a5 a6)],rfl,ms,ob,hv,qj,Xw n8,(Yf.note (f:=(Ft.mk (t.way++[t.no]) 12 a5 a6)) hh (lf.mono g6) m0).sub (fun x hx=>List.mem_append.2 (.inr hx))⟩
  have s3:¬ fuel≤s.looked:=by omega
  refine xb 5 3 a0 ?_
  refine xwm 0 ((s.looked:Int)+1) (↑(s.looked+1):Int) ?_
  refine xs 1 a0 [.slice pe s.es.length ce,.slice pb s.bs.length cb,V0 s.deep,V0 (↑(s.looked+1):Int),.slice pf fv.length cf] fun W49 i1 iz=>?_
  have gc:=i1.blkT k8 a0 (by decide)
  refine xlv 5 gc.rp ?_
  refine xb 2 2 iz ?_
  have h6:=i1.own2 (u8.own2 (Zb iu n7.below) n7.blk (by decide)) a0 (by decide)
  have k1:=i1.below (u8.below (bln p6 n7.below) g7) g2
  have j2:=h6
  have g6:=k1.size
  have m7:=((hI.below n7.below).only (Ze.of_upd (T:=[216]) u8 n7.blk (by decide)) (by decide)).only (Ze.of_upd (T:=[119]) i1 a0 (by decide)) (by decide)
  have j4:=((z9.below n7.below).only (Ze.of_upd (T:=[216]) u8 n7.blk (by decide)) (by decide)).only (Ze.of_upd (T:=[119]) i1 a0 (by decide)) (by decide)
  refine xc 0 (args:=#[P0 bm,.agg #[V0 t.no,V0 t.lo,V0 t.hi,.slice t.wa t.way.length t.wc,V0 t.ft],V0 tree,V0 s.deep]) ((Zej B bm p k c l t.no tree t.lo t.hi s.deep t.way t.wa t.wc (V0 t.ft) _ m7 (Yf.hd j4).ints (by omega) (e3.right t List.mem_cons_self k7)).mono (fun _ _ h=>Zca.or h6 h)) ?_
  rintro e W50 sw
  rcases sw with ⟨n9,a4,b4,k4,n4,c4,v4,m4,d4,fa,fc,rfl,a3,t9⟩|⟨n9,kp,kc,vp,vc,rfl,a3,hk,gr,iy⟩
  ·refine xa 3 [V0 0,.bool false,S0,S0] 173 fun b51 W51 f7=>?_
   have ci:=bln k1 a3
   have rt:=f7.ge ci
   refine xa 0 [S0,V0 0] 35 fun b52 W52 d6=>?_
   have o4:=bln ci f7.below
   have sh:=d6.ge o4
   have l1:=Zb (Zb (i1.own2 (u8.own2 (Zb p8 n7.below) n7.blk (by decide)) a0 (by decide)) a3) f7.below
   have k6:=Zx l1 d6
   have e7:=f7.blk.below d6.below
   refine xsv 0 e7 [V0 a4,.bool b4,.slice k4 n4 c4,.slice v4 m4 d4] fun W53 e1 k53=>?_
   have h4:=e1.blkT d6.blk e7 (by decide)
   refine xsv 0 h4 [.slice fa 1 fc,V0 (Xa l t.way t.no tree t.lo t.hi s.deep)] fun e0 e2 tn=>?_
   refine xb 6 1 tn ?_
   refine xk 3 (show(((Xa l t.way t.no tree t.lo t.hi s.deep) != (0:Int)):Bool)=true from bne_iff_ne.2 n9) ?_
   refine xd 1 (.t w.heap.size [35,119]) ?_
   have tw:=(e2.blkT (e1.blkT (((gc.below a3).below f7.below).below d6.below) e7 (by decide)) h4 (by decide)).below (Za e0)
   refine xbt (.e [0,2] 3) 3 w.heap.size [35,119] tw ?_
   refine xm2 0 1 4 ?_ ?_
   ·have cm:=(e2.blkT (e1.blkT (((iz.below a3).below f7.below).below d6.below) e7 (by decide)) h4 (by decide)).below (Za e0)
    refine xb 0 4 cm ?_
    have bq:=tn.below (Za e0)
    refine xlv (.o [] 4) bq.rp ?_
    have w1:=(((((j4.below a3).below f7.below).below d6.below).only (Ze.of_upd (T:=[173]) e1 e7 (by decide)) (by decide)).only (Ze.of_upd (T:=[35]) e2 h4 (by decide)) (by decide)).below (Za e0)
    have ln:=((((t9.below f7.below).below d6.below).only (Ze.of_upd (T:=[173]) e1 e7 (by decide)) (by decide)).only (Ze.of_upd (T:=[35]) e2 h4 (by decide)) (by decide)).below (Za e0)
    refine yc (.o [] 5) (args:=#[.slice t.wa t.way.length t.wc,.agg #[.slice fa 1 fc,V0 (Xa l t.way t.no tree t.lo t.hi s.deep)]]) (.t w.heap.size [35,119]) (Qh t.wa t.wc t.way (Xa l t.way t.no tree t.lo t.hi s.deep) _ fa fc t.no _ n9 (Yf.hd w1).ints (by omega) ln) ?_
    rintro _ W55 ⟨a5,a6,rfl,k9,i3⟩
    refine⟨(SF.of_below _ k9),?_⟩
    have m0:=i3.apart j2 (Nat.le_refl _)
    refine xbs (.o [] 6) 1 [.slice a5 ((t.way++[t.no]).length) a6,V0 (Xa l t.way t.no tree t.lo t.hi s.deep)] 35 fun b56 W56 t0=>?_
    have jy:=bq.below k9
    have sd:=t0.ne jy
    have dw:=bln (bln (e2.below (e1.below (bln o4 d6.below) rt) sh) (Za e0)) k9
    have g56:=t0.ge dw
    have x0:=Zb (Zb (e2.own3 (e1.own2 (Zb l1 d6.below) e7 (by decide)) k6) (Za e0)) k9
    have rn:=Zx x0 t0
    have d2:=Zb x0 t0.below
    have cp:=bln dw t0.below
    refine ybi (.o [] 7) (.t w.heap.size [35,119]) fun _ _ _ _ zJ zQ zo zx zy zK=>Zw (m:=1) (news:=[.slice a5 ((t.way++[t.no]).length) a6,V0 (Xa l t.way t.no tree t.lo t.hi s.deep)]) (.agg #[S0,V0 0]) 2 32 ((fv++[(Ft.mk (t.way++[t.no]) (Xa l t.way t.no tree t.lo t.hi s.deep) a5 a6)]).length) (((fv++[(Ft.mk (t.way++[t.no]) (Xa l t.way t.no tree t.lo t.hi s.deep) a5 a6)]).flatMap Bu)) zo Tryz.underlying117 (by kernel_rfl) rfl (by decide) zx d2 zy (t0.blk.sl 1 1 (by decide) (by decide)) rfl (by simp[Value.oneCell']) (by unfold maxLen;omega) (by omega) cp.size (by simp) (by rw[List.flatMap_append];rfl) fun mm qb W57 yy m3 nk=>?_
    refine zK _ _ (Zu nk m3 d2 (by decide)) ?_
    have i4:=((cm.below k9).below t0.below).grown m3 d2 (by decide)
    refine ys (.o [8] 9) i4 [.slice pe s.es.length ce,.slice pb s.bs.length cb,V0 s.deep,V0 (↑(s.looked+1):Int),.slice mm ((fv++[(Ft.mk (t.way++[t.no]) (Xa l t.way t.no tree t.lo t.hi s.deep) a5 a6)]).length) qb] (.t w.heap.size [35,119]) fun W58 ak k58=>⟨(Zp ak i4 g2 (by decide)),?_⟩
    refine xv1 5 10 (show(.slice (Qu aw 1 cw 5) (ts.length-1) (cw-1):Value)=.slice (Qu aw 1 cw 5) r.length (cw-1) from by rw[j9];rfl) ?_
    have la:=((((((((((((q9.below n7.below).updN u8 n7 rfl).only (Ze.of_upd (T:=[119]) i1 a0 (by decide)) (by decide)).below a3).below f7.below).below d6.below).only (Ze.of_upd (T:=[173]) e1 e7 (by decide)) (by decide)).only (Ze.of_upd (T:=[35]) e2 h4 (by decide)) (by decide)).below (Za e0)).below k9).below t0.below).only (Ze.of_grown (T:=[35]) m3 d2 (by decide)) (by decide)).only (Ze.of_upd (T:=[119]) ak i4 (by decide)) (by decide)
    have fw:=(((w1.below k9).below t0.below).only (Ze.of_grown (T:=[35]) m3 d2 (by decide)) (by decide)).only (Ze.of_upd (T:=[119]) ak i4 (by decide)) (by decide)
    have pl:=((i3.below t0.below).only (Ze.of_grown (T:=[35]) m3 d2 (by decide)) (by decide)).only (Ze.of_upd (T:=[119]) ak i4 (by decide)) (by decide)
    have mb:=ak.below (cp.trans nk) g2
    have bb:=ak.blk (((((e2.blkT (e1.blkT ((((i1.blk (u8.blkT (b0.below n7.below) n7.blk (by decide)) (Ne.symm (Ne.symm a7))).below a3).below f7.below).below d6.below) e7 (by decide)) h4 (by decide)).below (Za e0)).below k9).below t0.below).grown m3 d2 (by decide)) (Ne.symm (Ne.symm a7))
    have nz:=ak.own2 (Zf (Zb (Zb (Zb (e2.own2 (e1.own2 (Zb (Zb (Zb (i1.own2 (u8.own2 (Zb o1 n7.below) n7.blk (by decide)) a0 (by decide)) a3) f7.below) d6.below) e7 (by decide)) h4 (by decide)) (Za e0)) k9) t0.below) m3 d2 (by decide)) i4 (by decide)
    have fx:=ak.own2 (Zf (Zb (Zb (Zb (e2.own2 (e1.own2 (Zb (Zb (Zb h6 a3) f7.below) d6.below) e7 (by decide)) h4 (by decide)) (Za e0)) k9) t0.below) m3 d2 (by decide)) i4 (by decide)
    have lq:=ak.own2 yy i4 (by decide)
    have sx:=(((((((((m7.below a3).below f7.below).below d6.below).only (Ze.of_upd (T:=[173]) e1 e7 (by decide)) (by decide)).only (Ze.of_upd (T:=[35]) e2 h4 (by decide)) (by decide)).below (Za e0)).below k9).below t0.below).only (Ze.of_grown (T:=[35]) m3 d2 (by decide)) (by decide)).only (Ze.of_upd (T:=[119]) ak i4 (by decide)) (by decide)
    refine ze 0 (v6 _ _ _ ⟨(Yn t.way [t.no] (Xa l t.way t.no tree t.lo t.hi s.deep) { s with looked:=s.looked+1 }),r,pe,pb,mm,ce,cb,qb,(fv++[(Ft.mk (t.way++[t.no]) (Xa l t.way t.no tree t.lo t.hi s.deep) a5 a6)]),(Qu aw 1 cw 5),(cw-1),rfl,rfl,mb,bb,k58,nz,fx,lq,(Np.tail la j9),(Yf.note (f:=(Ft.mk (t.way++[t.no]) (Xa l t.way t.no tree t.lo t.hi s.deep) a5 a6)) fw (pl.mono g6) m0),sx,e3.err k7 s3 n9,Xw n8⟩ ?_)
    show 20*(fuel.toNat-(s.looked+1))+r.length<20*(fuel.toNat-s.looked)+ts.length
    omega
   have t4:=tn.below (Za e0)
   refine xlv 0 t4.rp ?_
   refine xm2 0 1 5 ?_ ?_
   ·have ds:=(e2.blkT (e1.blkT (((iz.below a3).below f7.below).below d6.below) e7 (by decide)) h4 (by decide)).below (Za e0)
    refine xb 0 4 ds ?_
    have v9:=(((((j4.below a3).below f7.below).below d6.below).only (Ze.of_upd (T:=[173]) e1 e7 (by decide)) (by decide)).only (Ze.of_upd (T:=[35]) e2 h4 (by decide)) (by decide)).below (Za e0)
    have qu:=((((t9.below f7.below).below d6.below).only (Ze.of_upd (T:=[173]) e1 e7 (by decide)) (by decide)).only (Ze.of_upd (T:=[35]) e2 h4 (by decide)) (by decide)).below (Za e0)
    refine yc (.o [] 5) (args:=#[.slice t.wa t.way.length t.wc,.agg #[.slice fa 1 fc,V0 (Xa l t.way t.no tree t.lo t.hi s.deep)]]) (.t w.heap.size [35,119]) (Qh t.wa t.wc t.way (Xa l t.way t.no tree t.lo t.hi s.deep) _ fa fc t.no _ n9 (Yf.hd v9).ints (by omega) qu) ?_
    rintro _ W59 ⟨a5,a6,rfl,l4,i3⟩
    refine⟨(SF.of_below _ l4),?_⟩
    have m0:=i3.apart j2 (Nat.le_refl _)
    refine xbs (.o [] 6) 1 [.slice a5 ((t.way++[t.no]).length) a6,V0 (Xa l t.way t.no tree t.lo t.hi s.deep)] 35 fun b60 W60 r9=>?_
    have ow:=t4.below l4
    have sa:=r9.ne ow
    have dq:=bln (bln (e2.below (e1.below (bln o4 d6.below) rt) sh) (Za e0)) l4
    have g60:=r9.ge dq
    have x2:=Zb (Zb (e2.own3 (e1.own2 (Zb l1 d6.below) e7 (by decide)) k6) (Za e0)) l4
    have ru:=Zx x2 r9
    have d5:=Zb x2 r9.below
    have dp:=bln dq r9.below
    refine ybi (.o [] 7) (.t w.heap.size [35,119]) fun _ _ _ _ zJ zQ zo zx zy zK=>Zw (m:=1) (news:=[.slice a5 ((t.way++[t.no]).length) a6,V0 (Xa l t.way t.no tree t.lo t.hi s.deep)]) (.agg #[S0,V0 0]) 2 32 ((fv++[(Ft.mk (t.way++[t.no]) (Xa l t.way t.no tree t.lo t.hi s.deep) a5 a6)]).length) (((fv++[(Ft.mk (t.way++[t.no]) (Xa l t.way t.no tree t.lo t.hi s.deep) a5 a6)]).flatMap Bu)) zo Tryz.underlying117 (by kernel_rfl) rfl (by decide) zx d5 zy (r9.blk.sl 1 1 (by decide) (by decide)) rfl (by simp[Value.oneCell']) (by unfold maxLen;omega) (by omega) dp.size (by simp) (by rw[List.flatMap_append];rfl) fun jf kk W61 za n3 od=>?_
    refine zK _ _ (Zu od n3 d5 (by decide)) ?_
    have i9:=((ds.below l4).below r9.below).grown n3 d5 (by decide)
    refine ys (.o [8] 9) i9 [.slice pe s.es.length ce,.slice pb s.bs.length cb,V0 s.deep,V0 (↑(s.looked+1):Int),.slice jf ((fv++[(Ft.mk (t.way++[t.no]) (Xa l t.way t.no tree t.lo t.hi s.deep) a5 a6)]).length) kk] (.t w.heap.size [35,119]) fun W62 aj k62=>⟨(Zp aj i9 g2 (by decide)),?_⟩
    refine xv1 5 10 (show(.slice (Qu aw 1 cw 5) (ts.length-1) (cw-1):Value)=.slice (Qu aw 1 cw 5) r.length (cw-1) from by rw[j9];rfl) ?_
    have nm:=((((((((((((q9.below n7.below).updN u8 n7 rfl).only (Ze.of_upd (T:=[119]) i1 a0 (by decide)) (by decide)).below a3).below f7.below).below d6.below).only (Ze.of_upd (T:=[173]) e1 e7 (by decide)) (by decide)).only (Ze.of_upd (T:=[35]) e2 h4 (by decide)) (by decide)).below (Za e0)).below l4).below r9.below).only (Ze.of_grown (T:=[35]) n3 d5 (by decide)) (by decide)).only (Ze.of_upd (T:=[119]) aj i9 (by decide)) (by decide)
    have ih:=(((v9.below l4).below r9.below).only (Ze.of_grown (T:=[35]) n3 d5 (by decide)) (by decide)).only (Ze.of_upd (T:=[119]) aj i9 (by decide)) (by decide)
    have ig:=((i3.below r9.below).only (Ze.of_grown (T:=[35]) n3 d5 (by decide)) (by decide)).only (Ze.of_upd (T:=[119]) aj i9 (by decide)) (by decide)
    have ly:=aj.below (dp.trans od) g2
    have aa:=aj.blk (((((e2.blkT (e1.blkT ((((i1.blk (u8.blkT (b0.below n7.below) n7.blk (by decide)) (Ne.symm (Ne.symm a7))).below a3).below f7.below).below d6.below) e7 (by decide)) h4 (by decide)).below (Za e0)).below l4).below r9.below).grown n3 d5 (by decide)) (Ne.symm (Ne.symm a7))
    have fz:=aj.own2 (Zf (Zb (Zb (Zb (e2.own2 (e1.own2 (Zb (Zb (Zb (i1.own2 (u8.own2 (Zb o1 n7.below) n7.blk (by decide)) a0 (by decide)) a3) f7.below) d6.below) e7 (by decide)) h4 (by decide)) (Za e0)) l4) r9.below) n3 d5 (by decide)) i9 (by decide)
    have ga:=aj.own2 (Zf (Zb (Zb (Zb (e2.own2 (e1.own2 (Zb (Zb (Zb h6 a3) f7.below) d6.below) e7 (by decide)) h4 (by decide)) (Za e0)) l4) r9.below) n3 d5 (by decide)) i9 (by decide)
    have li:=aj.own2 za i9 (by decide)
    have tv:=(((((((((m7.below a3).below f7.below).below d6.below).only (Ze.of_upd (T:=[173]) e1 e7 (by decide)) (by decide)).only (Ze.of_upd (T:=[35]) e2 h4 (by decide)) (by decide)).below (Za e0)).below l4).below r9.below).only (Ze.of_grown (T:=[35]) n3 d5 (by decide)) (by decide)).only (Ze.of_upd (T:=[119]) aj i9 (by decide)) (by decide)
    refine ze 0 (v6 _ _ _ ⟨(Yn t.way [t.no] (Xa l t.way t.no tree t.lo t.hi s.deep) { s with looked:=s.looked+1 }),r,pe,pb,jf,ce,cb,kk,(fv++[(Ft.mk (t.way++[t.no]) (Xa l t.way t.no tree t.lo t.hi s.deep) a5 a6)]),(Qu aw 1 cw 5),(cw-1),rfl,rfl,ly,aa,k62,fz,ga,li,(Np.tail nm j9),(Yf.note (f:=(Ft.mk (t.way++[t.no]) (Xa l t.way t.no tree t.lo t.hi s.deep) a5 a6)) ih (ig.mono g6) m0),tv,e3.err k7 s3 n9,Xw n8⟩ ?_)
    show 20*(fuel.toNat-(s.looked+1))+r.length<20*(fuel.toNat-s.looked)+ts.length
    omega
   have q2:=(((((j4.below a3).below f7.below).below d6.below).only (Ze.of_upd (T:=[173]) e1 e7 (by decide)) (by decide)).only (Ze.of_upd (T:=[35]) e2 h4 (by decide)) (by decide)).below (Za e0)
   have qd:=((((t9.below f7.below).below d6.below).only (Ze.of_upd (T:=[173]) e1 e7 (by decide)) (by decide)).only (Ze.of_upd (T:=[35]) e2 h4 (by decide)) (by decide)).below (Za e0)
   refine yc 0 (args:=#[.slice t.wa t.way.length t.wc,.agg #[.slice fa 1 fc,V0 (Xa l t.way t.no tree t.lo t.hi s.deep)]]) (.t w.heap.size [35,119]) (Qh t.wa t.wc t.way (Xa l t.way t.no tree t.lo t.hi s.deep) _ fa fc t.no _ n9 (Yf.hd q2).ints (by omega) qd) ?_
   rintro _ W63 ⟨a5,a6,rfl,d9,i3⟩
   refine⟨(SF.of_below _ d9),?_⟩
   have m0:=i3.apart j2 (Nat.le_refl _)
   refine xm2 0 1 6 ?_ ?_
   ·have dt:=((e2.blkT (e1.blkT (((iz.below a3).below f7.below).below d6.below) e7 (by decide)) h4 (by decide)).below (Za e0)).below d9
    refine xb 0 4 dt ?_
    refine xbs (.o [] 6) 1 [.slice a5 ((t.way++[t.no]).length) a6,V0 (Xa l t.way t.no tree t.lo t.hi s.deep)] 35 fun b64 W64 s8=>?_
    have pd:=t4.below d9
    have rs:=s8.ne pd
    have cc:=bln (bln (e2.below (e1.below (bln o4 d6.below) rt) sh) (Za e0)) d9
    have g64:=s8.ge cc
    have ad:=Zb (Zb (e2.own3 (e1.own2 (Zb l1 d6.below) e7 (by decide)) k6) (Za e0)) d9
    have ro:=Zx ad s8
    have d7:=Zb ad s8.below
    have bl:=bln cc s8.below
    refine ybi (.o [] 7) (.t w.heap.size [35,119]) fun _ _ _ _ zJ zQ zo zx zy zK=>Zw (m:=1) (news:=[.slice a5 ((t.way++[t.no]).length) a6,V0 (Xa l t.way t.no tree t.lo t.hi s.deep)]) (.agg #[S0,V0 0]) 2 32 ((fv++[(Ft.mk (t.way++[t.no]) (Xa l t.way t.no tree t.lo t.hi s.deep) a5 a6)]).length) (((fv++[(Ft.mk (t.way++[t.no]) (Xa l t.way t.no tree t.lo t.hi s.deep) a5 a6)]).flatMap Bu)) zo Tryz.underlying117 (by kernel_rfl) rfl (by decide) zx d7 zy (s8.blk.sl 1 1 (by decide) (by decide)) rfl (by simp[Value.oneCell']) (by unfold maxLen;omega) (by omega) bl.size (by simp) (by rw[List.flatMap_append];rfl) fun jr ko W65 ya m9 nj=>?_
    refine zK _ _ (Zu nj m9 d7 (by decide)) ?_
    have i5:=(dt.below s8.below).grown m9 d7 (by decide)
    refine ys (.o [8] 9) i5 [.slice pe s.es.length ce,.slice pb s.bs.length cb,V0 s.deep,V0 (↑(s.looked+1):Int),.slice jr ((fv++[(Ft.mk (t.way++[t.no]) (Xa l t.way t.no tree t.lo t.hi s.deep) a5 a6)]).length) ko] (.t w.heap.size [35,119]) fun W66 ar yh=>⟨(Zp ar i5 g2 (by decide)),?_⟩
    refine xv1 5 10 (show(.slice (Qu aw 1 cw 5) (ts.length-1) (cw-1):Value)=.slice (Qu aw 1 cw 5) r.length (cw-1) from by rw[j9];rfl) ?_
    have lw:=((((((((((((q9.below n7.below).updN u8 n7 rfl).only (Ze.of_upd (T:=[119]) i1 a0 (by decide)) (by decide)).below a3).below f7.below).below d6.below).only (Ze.of_upd (T:=[173]) e1 e7 (by decide)) (by decide)).only (Ze.of_upd (T:=[35]) e2 h4 (by decide)) (by decide)).below (Za e0)).below d9).below s8.below).only (Ze.of_grown (T:=[35]) m9 d7 (by decide)) (by decide)).only (Ze.of_upd (T:=[119]) ar i5 (by decide)) (by decide)
    have gp:=(((q2.below d9).below s8.below).only (Ze.of_grown (T:=[35]) m9 d7 (by decide)) (by decide)).only (Ze.of_upd (T:=[119]) ar i5 (by decide)) (by decide)
    have ib:=((i3.below s8.below).only (Ze.of_grown (T:=[35]) m9 d7 (by decide)) (by decide)).only (Ze.of_upd (T:=[119]) ar i5 (by decide)) (by decide)
    have np:=ar.below (bl.trans nj) g2
    have w9:=ar.blk (((((e2.blkT (e1.blkT ((((i1.blk (u8.blkT (b0.below n7.below) n7.blk (by decide)) (Ne.symm (Ne.symm a7))).below a3).below f7.below).below d6.below) e7 (by decide)) h4 (by decide)).below (Za e0)).below d9).below s8.below).grown m9 d7 (by decide)) (Ne.symm (Ne.symm a7))
    have hl:=ar.own2 (Zf (Zb (Zb (Zb (e2.own2 (e1.own2 (Zb (Zb (Zb (i1.own2 (u8.own2 (Zb o1 n7.below) n7.blk (by decide)) a0 (by decide)) a3) f7.below) d6.below) e7 (by decide)) h4 (by decide)) (Za e0)) d9) s8.below) m9 d7 (by decide)) i5 (by decide)
    have fu:=ar.own2 (Zf (Zb (Zb (Zb (e2.own2 (e1.own2 (Zb (Zb (Zb h6 a3) f7.below) d6.below) e7 (by decide)) h4 (by decide)) (Za e0)) d9) s8.below) m9 d7 (by decide)) i5 (by decide)
    have jk:=ar.own2 ya i5 (by decide)
    have ti:=(((((((((m7.below a3).below f7.below).below d6.below).only (Ze.of_upd (T:=[173]) e1 e7 (by decide)) (by decide)).only (Ze.of_upd (T:=[35]) e2 h4 (by decide)) (by decide)).below (Za e0)).below d9).below s8.below).only (Ze.of_grown (T:=[35]) m9 d7 (by decide)) (by decide)).only (Ze.of_upd (T:=[119]) ar i5 (by decide)) (by decide)
    refine ze 0 (v6 _ _ _ ⟨(Yn t.way [t.no] (Xa l t.way t.no tree t.lo t.hi s.deep) { s with looked:=s.looked+1 }),r,pe,pb,jr,ce,cb,ko,(fv++[(Ft.mk (t.way++[t.no]) (Xa l t.way t.no tree t.lo t.hi s.deep) a5 a6)]),(Qu aw 1 cw 5),(cw-1),rfl,rfl,np,w9,yh,hl,fu,jk,(Np.tail lw j9),(Yf.note (f:=(Ft.mk (t.way++[t.no]) (Xa l t.way t.no tree t.lo t.hi s.deep) a5 a6)) gp (ib.mono g6) m0),ti,e3.err k7 s3 n9,Xw n8⟩ ?_)
    show 20*(fuel.toNat-(s.looked+1))+r.length<20*(fuel.toNat-s.looked)+ts.length
    omega
   refine xbs 0 1 [.slice a5 ((t.way++[t.no]).length) a6,V0 (Xa l t.way t.no tree t.lo t.hi s.deep)] 35 fun b67 W67 s5=>?_
   have ka:=t4.below d9
   have sc:=s5.ne ka
   have er:=bln (bln (e2.below (e1.below (bln o4 d6.below) rt) sh) (Za e0)) d9
   have g67:=s5.ge er
   have z6:=Zb (Zb (e2.own3 (e1.own2 (Zb l1 d6.below) e7 (by decide)) k6) (Za e0)) d9
   have rq:=Zx z6 s5
   have de:=(((e2.blkT (e1.blkT (((iz.below a3).below f7.below).below d6.below) e7 (by decide)) h4 (by decide)).below (Za e0)).below d9).below s5.below
   refine xb (.o [] 1) 4 de ?_
   have d3:=Zb z6 s5.below
   have bk:=bln er s5.below
   refine ybi (.o [] 7) (.t w.heap.size [35,119]) fun _ _ _ _ zJ zQ zo zx zy zK=>Zw (m:=1) (news:=[.slice a5 ((t.way++[t.no]).length) a6,V0 (Xa l t.way t.no tree t.lo t.hi s.deep)]) (.agg #[S0,V0 0]) 2 32 ((fv++[(Ft.mk (t.way++[t.no]) (Xa l t.way t.no tree t.lo t.hi s.deep) a5 a6)]).length) (((fv++[(Ft.mk (t.way++[t.no]) (Xa l t.way t.no tree t.lo t.hi s.deep) a5 a6)]).flatMap Bu)) zo Tryz.underlying117 (by kernel_rfl) rfl (by decide) zx d3 zy (s5.blk.sl 1 1 (by decide) (by decide)) rfl (by simp[Value.oneCell']) (by unfold maxLen;omega) (by omega) bk.size (by simp) (by rw[List.flatMap_append];rfl) fun kg qy W68 wk m5 nt=>?_
   refine zK _ _ (Zu nt m5 d3 (by decide)) ?_
   have i7:=de.grown m5 d3 (by decide)
   refine ys (.o [8] 9) i7 [.slice pe s.es.length ce,.slice pb s.bs.length cb,V0 s.deep,V0 (↑(s.looked+1):Int),.slice kg ((fv++[(Ft.mk (t.way++[t.no]) (Xa l t.way t.no tree t.lo t.hi s.deep) a5 a6)]).length) qy] (.t w.heap.size [35,119]) fun W69 au k69=>⟨(Zp au i7 g2 (by decide)),?_⟩
   refine xv1 5 10 (show(.slice (Qu aw 1 cw 5) (ts.length-1) (cw-1):Value)=.slice (Qu aw 1 cw 5) r.length (cw-1) from by rw[j9];rfl) ?_
   have mh:=((((((((((((q9.below n7.below).updN u8 n7 rfl).only (Ze.of_upd (T:=[119]) i1 a0 (by decide)) (by decide)).below a3).below f7.below).below d6.below).only (Ze.of_upd (T:=[173]) e1 e7 (by decide)) (by decide)).only (Ze.of_upd (T:=[35]) e2 h4 (by decide)) (by decide)).below (Za e0)).below d9).below s5.below).only (Ze.of_grown (T:=[35]) m5 d3 (by decide)) (by decide)).only (Ze.of_upd (T:=[119]) au i7 (by decide)) (by decide)
   have hc:=(((q2.below d9).below s5.below).only (Ze.of_grown (T:=[35]) m5 d3 (by decide)) (by decide)).only (Ze.of_upd (T:=[119]) au i7 (by decide)) (by decide)
   have gm:=((i3.below s5.below).only (Ze.of_grown (T:=[35]) m5 d3 (by decide)) (by decide)).only (Ze.of_upd (T:=[119]) au i7 (by decide)) (by decide)
   have lb:=au.below (bk.trans nt) g2
   have y8:=au.blk (((((e2.blkT (e1.blkT ((((i1.blk (u8.blkT (b0.below n7.below) n7.blk (by decide)) (Ne.symm (Ne.symm a7))).below a3).below f7.below).below d6.below) e7 (by decide)) h4 (by decide)).below (Za e0)).below d9).below s5.below).grown m5 d3 (by decide)) (Ne.symm (Ne.symm a7))
   have fp:=au.own2 (Zf (Zb (Zb (Zb (e2.own2 (e1.own2 (Zb (Zb (Zb (i1.own2 (u8.own2 (Zb o1 n7.below) n7.blk (by decide)) a0 (by decide)) a3) f7.below) d6.below) e7 (by decide)) h4 (by decide)) (Za e0)) d9) s5.below) m5 d3 (by decide)) i7 (by decide)
   have hp:=au.own2 (Zf (Zb (Zb (Zb (e2.own2 (e1.own2 (Zb (Zb (Zb h6 a3) f7.below) d6.below) e7 (by decide)) h4 (by decide)) (Za e0)) d9) s5.below) m5 d3 (by decide)) i7 (by decide)
   have kf:=au.own2 wk i7 (by decide)
   have pg:=(((((((((m7.below a3).below f7.below).below d6.below).only (Ze.of_upd (T:=[173]) e1 e7 (by decide)) (by decide)).only (Ze.of_upd (T:=[35]) e2 h4 (by decide)) (by decide)).below (Za e0)).below d9).below s5.below).only (Ze.of_grown (T:=[35]) m5 d3 (by decide)) (by decide)).only (Ze.of_upd (T:=[119]) au i7 (by decide)) (by decide)
   refine ze 0 (v6 _ _ _ ⟨(Yn t.way [t.no] (Xa l t.way t.no tree t.lo t.hi s.deep) { s with looked:=s.looked+1 }),r,pe,pb,kg,ce,cb,qy,(fv++[(Ft.mk (t.way++[t.no]) (Xa l t.way t.no tree t.lo t.hi s.deep) a5 a6)]),(Qu aw 1 cw 5),(cw-1),rfl,rfl,lb,y8,k69,fp,hp,kf,(Np.tail mh j9),(Yf.note (f:=(Ft.mk (t.way++[t.no]) (Xa l t.way t.no tree t.lo t.hi s.deep) a5 a6)) hc (gm.mono g6) m0),pg,e3.err k7 s3 n9,Xw n8⟩ ?_)
   show 20*(fuel.toNat-(s.looked+1))+r.length<20*(fuel.toNat-s.looked)+ts.length
   omega
  have hnc:Zt (inB l t.no)≤18:=(Jg n9).2.2
  refine xa 3 [V0 0,.bool false,S0,S0] 173 fun nb W70 i2=>?_
  have fe:=bln k1 a3
  have yb:=i2.ge fe
  refine xa 0 [S0,V0 0] 35 fun wy W71 f4=>?_
  have ez:=bln fe i2.below
  have yn:=f4.ge ez
  have l2:=Zb (Zb (i1.own2 (u8.own2 (Zb p8 n7.below) n7.blk (by decide)) a0 (by decide)) a3) i2.below
  have k2:=Zx l2 f4
  have h0:=i2.blk.below f4.below
  refine xsv 0 h0 [V0 (Xv (inB l t.no)),.bool (Xr (inB l t.no)),.slice kp (Zt (inB l t.no)) kc,.slice vp (Zt (inB l t.no)) vc] fun W72 h2 zt=>?_
  have j1:=h2.blkT f4.blk h0 (by decide)
  refine xsv 0 j1 [S0,V0 0] fun W73 h5 vj=>?_
  refine xb 6 1 vj ?_
  have dv:=h5.blkT (h2.blkT (((iz.below a3).below i2.below).below f4.below) h0 (by decide)) j1 (by decide)
  refine xb 9 1 dv ?_
  have gf:=h5.blkT (h2.blkT (((gc.below a3).below i2.below).below f4.below) h0 (by decide)) j1 (by decide)
  refine xb 1 0 gf ?_
  refine xbs 0 1 [V0 t.no] 3 fun b74 W74 e5=>?_
  have db:=h5.below (h2.below (bln ez f4.below) yb) yn
  have g74:=e5.ge db
  have y4:=h5.own2 (h2.own2 (Zb (Zb (Zb h6 a3) i2.below) f4.below) h0 (by decide)) j1 (by decide)
  have sm:=Zx y4 e5
  have mn:=h5.own2 (h2.own2 (Zb (Zb (Zg hk k1.size) i2.below) f4.below) h0 (by decide)) j1 (by decide)
  have ul:=Zx mn e5
  have a2:=Zb y4 e5.below
  have y3:=bln db e5.below
  refine xbi 0 fun _ _ _ _ zJ zQ zo zx zy zK=>Cg (b:=b74) (c:=1) (m:=1) (news:=[V0 t.no]) (V0 0) 1 8 ((s.bs++[t.no]).length) (((s.bs++[t.no]).map V0)) zo Tryz.underlying33 (by kernel_rfl) rfl (by decide) zx a2 zy e5.blk rfl (by simp[Value.oneCell']) (by unfold maxLen;omega) (by omega) y3.size (by simp) (by simp) fun l0 l3 W75 iv b3 qe im=>?_
  have rj:=Zb mn e5.below
  have gu:=gr.row rj b3
  replace gr:=(gr.grow rj im)
  have r2:=gu
  refine zK _ _ ?_
  have a1:=(dv.below e5.below).grown b3 a2 (by decide)
  refine xs 1 a1 [.slice pe s.es.length ce,.slice l0 ((s.bs++[t.no]).length) l3,V0 s.deep,V0 (↑(s.looked+1):Int),.slice pf fv.length cf] fun h8 e6 p3=>?_
  have f5:=e6.blkT (((h5.blkT zt j1 (by decide)).below e5.below).grown b3 a2 (by decide)) a1 (by decide)
  refine xb 6 1 f5 ?_
  refine xi 2 (Xr (inB l t.no)) (fun hm=>?_) (fun hm=>?_)
  ·have jb:=hm
   have oj:=e6.blkT ((gf.below e5.below).grown b3 a2 (by decide)) a1 (by decide)
   refine xb 3 3 oj ?_
   refine xwm 1 ((t.way.length:Int)+1) (↑(t.way.length+1):Int) ?_
   refine xs 1 p3 [.slice pe s.es.length ce,.slice l0 ((s.bs++[t.no]).length) l3,V0 (↑(t.way.length+1):Int),V0 (↑(s.looked+1):Int),.slice pf fv.length cf] fun W78 u4 zc=>?_
   have ju:=(((((((((((q9.below n7.below).updN u8 n7 rfl).only (Ze.of_upd (T:=[119]) i1 a0 (by decide)) (by decide)).below a3).below i2.below).below f4.below).only (Ze.of_upd (T:=[173]) h2 h0 (by decide)) (by decide)).only (Ze.of_upd (T:=[35]) h5 j1 (by decide)) (by decide)).below e5.below).only (Ze.of_grown (T:=[3]) b3 a2 (by decide)) (by decide)).only (Ze.of_upd (T:=[119]) e6 a1 (by decide)) (by decide)).only (Ze.of_upd (T:=[119]) u4 p3 (by decide)) (by decide)
   have lt:=ju.un
   have ws:=(e3.leaf k7 s3 n9 jb).grow.1
   have hgl2:s.es.length+Zt (inB l t.no)≤1000000:=by have q:=Nat.le_trans ws hfe;simpa [Jh] using q
   have ho:=u4.own2 (e6.own2 (Zf (Zb (h5.own2 (h2.own2 (Zb (Zb (Zb (i1.own2 (u8.own2 (Zb o1 n7.below) n7.blk (by decide)) a0 (by decide)) a3) i2.below) f4.below) h0 (by decide)) j1 (by decide)) e5.below) b3 a2 (by decide)) a1 (by decide)) p3 (by decide)
   have je:=((((((((m7.below a3).below i2.below).below f4.below).only (Ze.of_upd (T:=[173]) h2 h0 (by decide)) (by decide)).only (Ze.of_upd (T:=[35]) h5 j1 (by decide)) (by decide)).below e5.below).only (Ze.of_grown (T:=[3]) b3 a2 (by decide)) (by decide)).only (Ze.of_upd (T:=[119]) e6 a1 (by decide)) (by decide)).only (Ze.of_upd (T:=[119]) u4 p3 (by decide)) (by decide)
   have gw:=u4.own2 (e6.own2 (Zf (Zb (h5.own3 (h2.own2 (Zb l2 f4.below) h0 (by decide)) k2) e5.below) b3 a2 (by decide)) a1 (by decide)) p3 (by decide)
   have ij:=((((((((j4.below a3).below i2.below).below f4.below).only (Ze.of_upd (T:=[173]) h2 h0 (by decide)) (by decide)).only (Ze.of_upd (T:=[35]) h5 j1 (by decide)) (by decide)).below e5.below).grow a2 b3 im).only (Ze.of_upd (T:=[119]) e6 a1 (by decide)) (by decide)).only (Ze.of_upd (T:=[119]) u4 p3 (by decide)) (by decide)
   have jd:=u4.own2 (e6.own2 (Zf (Zb (h5.own2 (h2.own2 (Zb (Zb (Zg iy k1.size) i2.below) f4.below) h0 (by decide)) j1 (by decide)) e5.below) b3 a2 (by decide)) a1 (by decide)) p3 (by decide)
   have sy:=u4.own2 (e6.own2 r2 a1 (by decide)) p3 (by decide)
   have kj:=u4.own2 (e6.own2 iv a1 (by decide)) p3 (by decide)
   have jo:=u4.below (e6.below (y3.trans qe) g2) g2
   have x1:=u4.blk (e6.blk (((h5.blkT (h2.blkT ((((i1.blk (u8.blkT (b0.below n7.below) n7.blk (by decide)) (Ne.symm (Ne.symm a7))).below a3).below i2.below).below f4.below) h0 (by decide)) j1 (by decide)).below e5.below).grown b3 a2 (by decide)) (Ne.symm (Ne.symm a7))) (Ne.symm (Ne.symm a7))
   have uo:=u4.blkT oj p3 (by decide)
   have qm:=u4.blkT f5 p3 (by decide)
   have kn:=u4.blkT (e6.blkT ((vj.below e5.below).grown b3 a2 (by decide)) a1 (by decide)) p3 (by decide)
   refine zl 9 186 (fun zm bc V=>∃ (i:Nat) (rr:O0) (sk:Nat),bc=[(0,P0 bm),(2,V0 tree),(3,V0 fuel),(8,P0 b1),(9,P0 b2),(10,.slice (Qu aw 1 cw 5) (ts.length-1) (cw-1)),(11,P0 b7),(12,P0 nb),(14,V0 (i:Int))]∧zm=(Zt (inB l t.no))-((i:Int)).toNat∧B0 w V∧Blk V b1 ([S0,S0,V0 0,V0 0,S0]) 119∧Blk V b2 ([.slice rr (s.es.length+i) sk,.slice l0 ((s.bs++[t.no]).length) l3,V0 (↑(t.way.length+1):Int),V0 (↑(s.looked+1):Int),.slice pf fv.length cf]) 119∧Blk V b7 ([V0 t.no,V0 t.lo,V0 t.hi,.slice t.wa t.way.length t.wc,V0 t.ft]) 216∧Blk V nb ([V0 (Xv (inB l t.no)),.bool (Xr (inB l t.no)),.slice kp (Zt (inB l t.no)) kc,.slice vp (Zt (inB l t.no)) vc]) 173∧Blk V wy ([S0,V0 0]) 35∧V.ownsRow w.heap.size 123 3 (.slice rr (s.es.length+i) sk) (s.es.length+i) ((s.es++Vy (Ya l t.no) (Qy l t.no) t.no i).flatMap Vt)∧RefI B bm p k c l V∧V.ownsRow w.heap.size 35 2 (.slice pf fv.length cf) fv.length (fv.flatMap Bu)∧Mj w.heap.size V aw cw ts∧Yf w.heap.size V (.slice l0 ((s.bs++[t.no]).length) l3) ((t::r).map Zb9++fv.map Zhe)∧V.ownsRow w.heap.size 9 1 (.slice vp (Zt (inB l t.no)) vc) (Zt (inB l t.no)) ((Qy l t.no).map sv)∧V.ownsRow w.heap.size 3 1 (.slice kp (Zt (inB l t.no)) kc) (Zt (inB l t.no)) ((Ya l t.no).map V0)∧V.ownsRow w.heap.size 3 1 (.slice l0 ((s.bs++[t.no]).length) l3) ((s.bs++[t.no]).length) ((s.bs++[t.no]).map V0)∧i≤(Zt (inB l t.no))) ⟨0,pe,ce,rfl,rfl,jo,x1,zc,uo,qm,kn,(by simpa [Vy] using ho),je,gw,lt,ij,jd,sy,kj,Nat.zero_le _⟩ ?_
   rintro _ _ k5 ⟨i,rr,sk,rfl,rfl,z0,q3,p9,gn,r7,r8,hE,hI,p8,lt,z9,iy,hk,iv,hi⟩ J79 mx r79
   refine xb 5 2 r7 ?_
   refine xid 4 ((i:Int)<(↑(Zt (inB l t.no)):Int)) (fun tj=>?_) (fun tj=>?_)
   ·refine xd 4 (.t w.heap.size [123,119]) ?_
    have g3:=r7.below (Za k5)
    refine xbt (.e [0,2] 3) 2 w.heap.size [123,119] g3 ?_
    have ba:=Zb hk (Za k5)
    refine xx (.e [4] 5) _ (Zt (inB l t.no)) i 1 (IntsN.elem (l:=Ya l t.no) (Zh ba) (Qe _ _) (k:=i) (by omega)).1 ?_
    refine xlt (.e [] 6) (.t w.heap.size [123,119]) (fun V hV=>(IntsN.elem (l:=Ya l t.no) (Zh (Zn ba hV.2 (by decide))) (Qe _ _) (k:=i) (by omega)).2) ?_
    refine xbt (.e [7] 8) 3 w.heap.size [123,119] g3 ?_
    have t1:=Zb iy (Za k5)
    refine xx (.e [9] 10) _ (Zt (inB l t.no)) i 1 (Strs.elem (V:=Qy l t.no) (Zh t1) (Vo _ _) (k:=i) (by omega)).1 ?_
    refine xlt (.e [] 11) (.t w.heap.size [123,119]) (fun V hV=>(Strs.elem (V:=Qy l t.no) (Zh (Zn t1 hV.2 (by decide))) (Vo _ _) (k:=i) (by omega)).2) ?_
    have l5:=gn.below (Za k5)
    refine xbt (.e [12] 13) 0 w.heap.size [123,119] l5 ?_
    refine xm2 (.b [14]) 1 15 ?_ ?_
    ·have o3:=p9.below (Za k5)
     refine xb 0 0 o3 ?_
     refine xbs (.o [] 15) 1 [V0 ((Ya l t.no).getD i 0),.string ⟨((Qy l t.no).getD i []).toArray⟩,V0 t.no] 123 fun b81 W81 o8=>?_
     have ct:=bln z0 (Za k5)
     have g81:=o8.ge ct
     have oo:=Zb hE (Za k5)
     have te:=Zx oo o8
     have i8:=Zb oo o8.below
     have cn:=bln ct o8.below
     refine ybi (.o [] 16) (.t w.heap.size [123,119]) fun _ _ _ _ zJ zQ zo zx zy zK=>Zw (m:=1) (news:=[V0 ((Ya l t.no).getD i 0),.string ⟨((Qy l t.no).getD i []).toArray⟩,V0 t.no]) (.agg #[V0 0,.string ⟨#[]⟩,V0 0]) 3 32 ((s.es.length+(i+1))) (((s.es++Vy (Ya l t.no) (Qy l t.no) t.no (i+1)).flatMap Vt)) zo Tryz.underlying88 (by kernel_rfl) rfl (by decide) zx i8 zy (o8.blk.sl 1 1 (by decide) (by decide)) rfl (by simp[Value.oneCell']) (by unfold maxLen;omega) (by omega) cn.size (by omega) (Ba _ _ _ _ _) fun ux tg W82 zp j3 ks=>?_
     refine zK _ _ (Zu ks j3 i8 (by decide)) ?_
     have a8:=(o3.below o8.below).grown j3 i8 (by decide)
     refine ys (.o [17] 18) a8 [.slice ux (s.es.length+(i+1)) tg,.slice l0 ((s.bs++[t.no]).length) l3,V0 (↑(t.way.length+1):Int),V0 (↑(s.looked+1):Int),.slice pf fv.length cf] (.t w.heap.size [123,119]) fun W83 s0 zw=>⟨(Zp s0 a8 g2 (by decide)),?_⟩
     refine xwm 5 ((i:Int)+1) (↑(i+1):Int) ?_
     have md:=s0.below (cn.trans ks) g2
     have w0:=s0.blk (((q3.below (Za k5)).below o8.below).grown j3 i8 (by decide)) (Ne.symm (Ne.symm a7))
     have x8:=s0.blkT ((l5.below o8.below).grown j3 i8 (by decide)) a8 (by decide)
     have u6:=s0.blkT ((g3.below o8.below).grown j3 i8 (by decide)) a8 (by decide)
     have v1:=s0.blkT (((r8.below (Za k5)).below o8.below).grown j3 i8 (by decide)) a8 (by decide)
     have oh:=s0.own2 zp a8 (by decide)
     have qv:=(((hI.below (Za k5)).below o8.below).only (Ze.of_grown (T:=[123]) j3 i8 (by decide)) (by decide)).only (Ze.of_upd (T:=[119]) s0 a8 (by decide)) (by decide)
     have hw:=s0.own2 (Zf (Zb (Zb p8 (Za k5)) o8.below) j3 i8 (by decide)) a8 (by decide)
     have qr:=(((lt.below (Za k5)).below o8.below).only (Ze.of_grown (T:=[123]) j3 i8 (by decide)) (by decide)).only (Ze.of_upd (T:=[119]) s0 a8 (by decide)) (by decide)
     have gl:=(((z9.below (Za k5)).below o8.below).only (Ze.of_grown (T:=[123]) j3 i8 (by decide)) (by decide)).only (Ze.of_upd (T:=[119]) s0 a8 (by decide)) (by decide)
     have pv:=s0.own2 (Zf (Zb t1 o8.below) j3 i8 (by decide)) a8 (by decide)
     have tx:=s0.own2 (Zf (Zb ba o8.below) j3 i8 (by decide)) a8 (by decide)
     have rg:=s0.own2 (Zf (Zb (Zb iv (Za k5)) o8.below) j3 i8 (by decide)) a8 (by decide)
     exact ze 2 (mx _ _ _ ⟨i+1,_,_,rfl,rfl,md,w0,zw,x8,u6,v1,oh,qv,hw,qr,gl,pv,tx,rg,by omega⟩ (by omega))
    refine xbs 0 1 [V0 ((Ya l t.no).getD i 0),.string ⟨((Qy l t.no).getD i []).toArray⟩,V0 t.no] 123 fun b84 W84 o9=>?_
    have dy:=bln z0 (Za k5)
    have g84:=o9.ge dy
    have jn:=Zb hE (Za k5)
    have ut:=Zx jn o9
    have p0:=(p9.below (Za k5)).below o9.below
    refine xb (.o [] 1) 0 p0 ?_
    have i6:=Zb jn o9.below
    have en:=bln dy o9.below
    refine ybi (.o [] 16) (.t w.heap.size [123,119]) fun _ _ _ _ zJ zQ zo zx zy zK=>Zw (m:=1) (news:=[V0 ((Ya l t.no).getD i 0),.string ⟨((Qy l t.no).getD i []).toArray⟩,V0 t.no]) (.agg #[V0 0,.string ⟨#[]⟩,V0 0]) 3 32 ((s.es.length+(i+1))) (((s.es++Vy (Ya l t.no) (Qy l t.no) t.no (i+1)).flatMap Vt)) zo Tryz.underlying88 (by kernel_rfl) rfl (by decide) zx i6 zy (o9.blk.sl 1 1 (by decide) (by decide)) rfl (by simp[Value.oneCell']) (by unfold maxLen;omega) (by omega) en.size (by omega) (Ba _ _ _ _ _) fun ue tp W85 vv j5 mg=>?_
    refine zK _ _ (Zu mg j5 i6 (by decide)) ?_
    have a9:=p0.grown j5 i6 (by decide)
    refine ys (.o [17] 18) a9 [.slice ue (s.es.length+(i+1)) tp,.slice l0 ((s.bs++[t.no]).length) l3,V0 (↑(t.way.length+1):Int),V0 (↑(s.looked+1):Int),.slice pf fv.length cf] (.t w.heap.size [123,119]) fun W86 q8 yo=>⟨(Zp q8 a9 g2 (by decide)),?_⟩
    refine xwm 5 ((i:Int)+1) (↑(i+1):Int) ?_
    have ol:=q8.below (en.trans mg) g2
    have z2:=q8.blk (((q3.below (Za k5)).below o9.below).grown j5 i6 (by decide)) (Ne.symm (Ne.symm a7))
    have x4:=q8.blkT ((l5.below o9.below).grown j5 i6 (by decide)) a9 (by decide)
    have u7:=q8.blkT ((g3.below o9.below).grown j5 i6 (by decide)) a9 (by decide)
    have u9:=q8.blkT (((r8.below (Za k5)).below o9.below).grown j5 i6 (by decide)) a9 (by decide)
    have py:=q8.own2 vv a9 (by decide)
    have pu:=(((hI.below (Za k5)).below o9.below).only (Ze.of_grown (T:=[123]) j5 i6 (by decide)) (by decide)).only (Ze.of_upd (T:=[119]) q8 a9 (by decide)) (by decide)
    have gt:=q8.own2 (Zf (Zb (Zb p8 (Za k5)) o9.below) j5 i6 (by decide)) a9 (by decide)
    have ni:=(((lt.below (Za k5)).below o9.below).only (Ze.of_grown (T:=[123]) j5 i6 (by decide)) (by decide)).only (Ze.of_upd (T:=[119]) q8 a9 (by decide)) (by decide)
    have gi:=(((z9.below (Za k5)).below o9.below).only (Ze.of_grown (T:=[123]) j5 i6 (by decide)) (by decide)).only (Ze.of_upd (T:=[119]) q8 a9 (by decide)) (by decide)
    have ql:=q8.own2 (Zf (Zb t1 o9.below) j5 i6 (by decide)) a9 (by decide)
    have sp:=q8.own2 (Zf (Zb ba o9.below) j5 i6 (by decide)) a9 (by decide)
    have jm:=q8.own2 (Zf (Zb (Zb iv (Za k5)) o9.below) j5 i6 (by decide)) a9 (by decide)
    exact ze 2 (mx _ _ _ ⟨i+1,_,_,rfl,rfl,ol,z2,yo,x4,u7,u9,py,pu,gt,ni,gi,ql,sp,jm,by omega⟩ (by omega))
   refine xv1 8 10 (show(.slice (Qu aw 1 cw 5) (ts.length-1) (cw-1):Value)=.slice (Qu aw 1 cw 5) r.length (cw-1) from by rw[j9];rfl) ?_
   have vx:i=(Zt (inB l t.no)):=by omega
   have vm:=p9
   have vi:=hE
   rw[vx] at vm vi
   refine ze 0 (v6 _ _ _ ⟨{ s with looked:=s.looked+1,bs:=s.bs++[t.no],deep:=((t.way.length+1:Nat):Int),es:=s.es++Vy (Ya l t.no) (Qy l t.no) t.no (Zt (inB l t.no)) },r,rr,l0,pf,sk,l3,cf,fv,(Qu aw 1 cw 5),(cw-1),rfl,rfl,z0,q3,(by simpa [Jh] using vm),(by simpa [Jh] using vi),iv,p8,(Np.tail (Mj.at_ lt) j9),z9.drop1,hI,e3.leaf k7 s3 n9 jb,n8⟩ ?_)
   show 20*(fuel.toNat-(s.looked+1))+r.length<20*(fuel.toNat-s.looked)+ts.length
   omega
  have jb:=hm
  have r4:=e6.own2 iv a1 (by decide)
  have ia:=r4
  have n6:=(((((((j4.below a3).below i2.below).below f4.below).only (Ze.of_upd (T:=[173]) h2 h0 (by decide)) (by decide)).only (Ze.of_upd (T:=[35]) h5 j1 (by decide)) (by decide)).below e5.below).grow a2 b3 im).only (Ze.of_upd (T:=[119]) e6 a1 (by decide)) (by decide)
  have w7:=(Yf.hd n6).ints
  have kl:=e6.below (y3.trans qe) g2
  have u2:=kl
  refine xd 3 (.t h8.heap.size [3]) ?_
  have b5:=e6.blkT ((gf.below e5.below).grown b3 a2 (by decide)) a1 (by decide)
  have hB:=(Za h8)
  refine xlt (.e [1] 2) (.t h8.heap.size [3]) (fun V hV=>((b5.below (Kb hB hV (Nat.le_refl _))).cell (i:=3) rfl)) ?_
  refine xlt (.e [4] 5) (.t h8.heap.size [3]) (fun V hV=>((b5.below (Kb hB hV (Nat.le_refl _))).cell (i:=0) rfl)) ?_
  refine xm2 0 0 6 ?_ ?_
  ·refine xb0 0 3 fun b88 W88 nd=>?_
   have vu:=nd.ge hB
   refine xm2 0 3 6 ?_ ?_
   ·have qa:=Xc (size:=1) (n:=0) nd.blk vu rfl (by decide)
    have ai:=bln hB nd.below
    refine ybi 0 (.t h8.heap.size [3]) fun _ _ _ _ zJ zQ zo zx zy zK=>Zw (m:=t.way.length) (news:=(t.way.map V0)) (V0 0) 1 8 (t.way.length) ((t.way.map V0)) zo Tryz.underlying33 (by kernel_rfl) rfl (by decide) zx qa zy (w7.below ai) (by simp) (Vl _) (by unfold maxLen;omega) (by omega) ai.size (by omega) (by rfl) fun yt yk W89 vr ta kb=>?_
    refine zK _ _ (Zu kb ta qa (by decide)) ?_
    refine xbs (.o [] 6) 1 [V0 t.no] 3 fun b90 W90 ra=>?_
    have ei:=ai.trans kb
    have g90:=ra.ge ei
    have sg:=Zx vr ra
    have dj:=Zb vr ra.below
    have dd:=bln ei ra.below
    refine ybi (.o [] 7) (.t h8.heap.size [3]) fun _ _ _ _ zJ zQ zo zx zy zK=>Zw (m:=1) (news:=[V0 t.no]) (V0 0) 1 8 ((t.way++[t.no]).length) (((t.way++[t.no]).map V0)) zo Tryz.underlying33 (by kernel_rfl) rfl (by decide) zx dj zy (ra.blk.sl 1 1 (by decide) (by decide)) rfl (by simp[Value.oneCell']) (by unfold maxLen;omega) (by omega) dd.size (by simp) (by simp) fun i0 h7 W91 lv tb mt=>?_
    refine zK _ _ (Zu mt tb dj (by decide)) ?_
    have pw:=dd.trans mt
    refine zl (.r [8] 14) 186 (fun zm bc V=>∃ (i:Nat) (pq:O0) (cq:Nat),bc=[(0,P0 bm),(2,V0 tree),(3,V0 fuel),(8,P0 b1),(9,P0 b2),(10,.slice (Qu aw 1 cw 5) (ts.length-1) (cw-1)),(11,P0 b7),(12,P0 nb),(15,.slice i0 ((t.way++[t.no]).length) h7),(16,.slice pq i cq),(17,V0 (i:Int))]∧zm=(Zt (inB l t.no))-((i:Int)).toNat∧Below h8.heap.size h8 V∧V.ownsRow h8.heap.size 216 5 (.slice pq i cq) i ((Yt l t i0 h7 i).flatMap wtC)∧V.ownsRow h8.heap.size 3 1 (.slice i0 ((t.way++[t.no]).length) h7) ((t.way++[t.no]).length) ((t.way++[t.no]).map V0)∧i≤(Zt (inB l t.no))) ⟨0,_,_,rfl,rfl,pw,World.ownsRow_nil _ _ _ _,lv,Nat.zero_le _⟩ ?_
    rintro _ _ W92 ⟨i,pq,cq,rfl,rfl,j7,s4,lv,hi⟩ J92 qz r92
    refine xl 5 ((f5.below j7).cell (i:=2) rfl) ?_
    refine xid 4 ((i:Int)<(↑(Zt (inB l t.no)):Int)) (fun tk=>?_) (fun tk=>?_)
    ·refine xl 7 ((f5.below j7).cell (i:=3) rfl) ?_
     have b8:=Zh (e6.own2 (Zf (Zb (h5.own2 (h2.own2 (Zb (Zb (Zg iy k1.size) i2.below) f4.below) h0 (by decide)) j1 (by decide)) e5.below) b3 a2 (by decide)) a1 (by decide))
     refine xx 1 _ (Zt (inB l t.no)) i 1 (Strs.elem (V:=Qy l t.no) b8 (Vo _ _) (k:=i) (by omega)).1 ?_
     refine xl 0 ((Strs.elem (V:=Qy l t.no) (b8.below j7) (Vo _ _) (k:=i) (by omega)).2) ?_
     refine xr 0 (args:=#[.string ⟨((Qy l t.no).getD i []).toArray⟩]) (Hr ((Qy l t.no).getD i []) _ (Je _ _ _)) fun W94 v2=>?_
     refine xin 14 (Xo ((Qy l t.no).getD i [])) (0:Int) (fun gj=>?_) (fun gj=>?_)
     ·have z3:=gj
      have s1:=bln j7 v2
      refine xl 4 ((b5.below s1).cell (i:=0) rfl) ?_
      refine xl 1 ((b5.below s1).cell (i:=3) rfl) ?_
      refine xbs 2 1 [V0 t.no,V0 0,V0 0,.slice t.wa t.way.length t.wc,V0 (Xo ((Qy l t.no).getD i []))] 216 fun b96 W96 ir=>?_
      have g96:=ir.ge s1
      have eu:=Zb s4 v2
      have se:=Zx eu ir
      have bz:=Zb eu ir.below
      have em:=bln s1 ir.below
      refine xbi 0 fun _ _ _ _ zJ zQ zo zx zy zK=>Zw (m:=1) (news:=[V0 t.no,V0 0,V0 0,.slice t.wa t.way.length t.wc,V0 (Xo ((Qy l t.no).getD i []))]) (.agg #[V0 0,V0 0,V0 0,S0,V0 0]) 5 56 (i+1) (((Yt l t i0 h7 (i+1)).flatMap wtC)) zo Tryz.underlying217 (by kernel_rfl) rfl (by decide) zx bz zy (ir.blk.sl 1 1 (by decide) (by decide)) rfl (by simp[Value.oneCell']) (by unfold maxLen;omega) (by omega) em.size (by rfl) (by rw[Vx,List.flatMap_append,show Vc l t i0 h7 i=⟨t.no,0,0,t.way,Xo ((Qy l t.no).getD i []),t.wa,t.wc⟩ from by unfold Vc;rw[if_neg z3]];rfl) fun yi cx97 W97 xp tm ua=>?_
      refine zK _ _ ?_
      refine xwm 9 ((i:Int)+1) (↑(i+1):Int) ?_
      have na:=em.trans ua
      have rf:=Zf (Zb (Zb lv v2) ir.below) tm bz (by decide)
      exact ze 2 (qz _ _ _ ⟨i+1,_,_,rfl,rfl,na,xp,rf,by omega⟩ (by omega))
     have z3:=gj
     have q7:=bln j7 v2
     refine xlv 5 ((b5.below q7).rpp 1 2) ?_
     refine xl 1 ((f5.below q7).cell (i:=2) rfl) ?_
     have v8:(Ya l t.no).length=(Zt (inB l t.no)):=Qe _ _
     have pn:=Bm (Jg n9).2.1 (i:=i) (by rw[v8];omega)
     have j0:=Zh (e6.own2 r2 a1 (by decide))
     refine xr 1 (args:=#[.agg #[V0 t.lo,V0 t.hi],.slice kp (Zt (inB l t.no)) kc,V0 (i:Int)]) ((Hu t.lo t.hi (i:Int) _ (Ya l t.no) _ ⟨by omega,by omega⟩ (by rw[v8];omega) (Uz (j0.below q7) v8)).mono (fun _ _ h=>by rw[pn] at h;exact h)) fun W98 fj=>?_
     refine xa 3 [V0 0,V0 0] 214 fun b99 W99 gh=>?_
     have eb:=bln q7 fj
     have yu:=gh.ge eb
     refine xsv 0 gh.blk [V0 ((Xg t.hi (Ya l t.no) i).1),V0 ((Xg t.hi (Ya l t.no) i).2)] fun wq gv uh=>?_
     refine xlv 6 uh.rp ?_
     refine xbs 2 1 [V0 (↑(Zo ((Qy l t.no).getD i [])):Int),V0 ((Xg t.hi (Ya l t.no) i).1),V0 ((Xg t.hi (Ya l t.no) i).2),.slice i0 ((t.way++[t.no]).length) h7,V0 0] 216 fun xf W101 u0=>?_
     have ew:=gv.below (bln eb gh.below) yu
     have wx:=u0.ge ew
     have ex:=gv.own2 (Zb (Zb (Zb s4 v2) fj) gh.below) gh.blk (by decide)
     have jw:=Zx ex u0
     have eo:=Zb ex u0.below
     have co:=bln ew u0.below
     refine xbi 0 fun _ _ _ _ zJ zQ zo zx zy zK=>Zw (m:=1) (news:=[V0 (↑(Zo ((Qy l t.no).getD i [])):Int),V0 ((Xg t.hi (Ya l t.no) i).1),V0 ((Xg t.hi (Ya l t.no) i).2),.slice i0 ((t.way++[t.no]).length) h7,V0 0]) (.agg #[V0 0,V0 0,V0 0,S0,V0 0]) 5 56 (i+1) (((Yt l t i0 h7 (i+1)).flatMap wtC)) zo Tryz.underlying217 (by kernel_rfl) rfl (by decide) zx eo zy (u0.blk.sl 1 1 (by decide) (by decide)) rfl (by simp[Value.oneCell']) (by unfold maxLen;omega) (by omega) co.size (by rfl) (by rw[Vx,List.flatMap_append,show Vc l t i0 h7 i=⟨Zo ((Qy l t.no).getD i []),(Xg t.hi (Ya l t.no) i).1,(Xg t.hi (Ya l t.no) i).2,t.way++[t.no],0,i0,h7⟩ from by unfold Vc;rw[if_pos z3]];rfl) fun vg va W102 tr ok jh=>?_
     refine zK _ _ ?_
     refine xwm 6 ((i:Int)+1) (↑(i+1):Int) ?_
     have lx:=co.trans jh
     have oe:=Zf (Zb (gv.own2 (Zb (Zb (Zb lv v2) fj) gh.below) gh.blk (by decide)) u0.below) ok eo (by decide)
     exact ze 2 (qz _ _ _ ⟨i+1,_,_,rfl,rfl,lx,tr,oe,by omega⟩ (by omega))
    have e8:=((((((((((q9.below n7.below).updN u8 n7 rfl).only (Ze.of_upd (T:=[119]) i1 a0 (by decide)) (by decide)).below a3).below i2.below).below f4.below).only (Ze.of_upd (T:=[173]) h2 h0 (by decide)) (by decide)).only (Ze.of_upd (T:=[35]) h5 j1 (by decide)) (by decide)).below e5.below).only (Ze.of_grown (T:=[3]) b3 a2 (by decide)) (by decide)).only (Ze.of_upd (T:=[119]) e6 a1 (by decide)) (by decide)
    refine xbi 8 fun _ _ _ _ zJ zQ zo zx zy zK=>Zw (m:=(ts.length-1)) (news:=(r.flatMap wtC)) (.agg #[V0 0,V0 0,V0 0,S0,V0 0]) 5 56 ((Yt l t i0 h7 (Zt (inB l t.no))++r).length) (((Yt l t i0 h7 (Zt (inB l t.no))++r).flatMap wtC)) zo Tryz.underlying217 (by kernel_rfl) rfl (by decide) zx s4 zy ((e8.below j7).slN j9) (by rw[Ja Nh,bf];rfl) (Zhn r) (by unfold maxLen;omega) (by omega) j7.size (by rw[List.length_append,Vz,bf];omega) (by rw[List.flatMap_append,show i=(Zt (inB l t.no)) by omega]) fun mz lp tu uu ps nh=>?_
    refine zK _ _ ?_
    have ey:=Zf lv ps s4 (by decide)
    have y6:=(Vg.of_lt ia ey (Nat.le_refl _)).symm
    have pm:=j7.trans nh
    have j6:Below h8.heap.size h8 tu:=pm
    have ff:w.heap.size≤h8.heap.size:=u2.size
    have ic:=Zg uu ff
    have fo:=n6.below j6
    have jq:=Zg ey ff
    have hB:=bln u2 j6
    have z1:=(e6.blk (((h5.blkT (h2.blkT ((((i1.blk (u8.blkT (b0.below n7.below) n7.blk (by decide)) (Ne.symm (Ne.symm a7))).below a3).below i2.below).below f4.below) h0 (by decide)) j1 (by decide)).below e5.below).grown b3 a2 (by decide)) (Ne.symm (Ne.symm a7))).below j6
    have kx:=p3.below j6
    have hz:=Zb (e6.own2 (Zf (Zb (h5.own2 (h2.own2 (Zb (Zb (Zb (i1.own2 (u8.own2 (Zb o1 n7.below) n7.blk (by decide)) a0 (by decide)) a3) i2.below) f4.below) h0 (by decide)) j1 (by decide)) e5.below) b3 a2 (by decide)) a1 (by decide)) j6
    have ng:=Zb r4 j6
    have hs:=Zb (e6.own2 (Zf (Zb (h5.own3 (h2.own2 (Zb l2 f4.below) h0 (by decide)) k2) e5.below) b3 a2 (by decide)) a1 (by decide)) j6
    have jc:=((((((((m7.below a3).below i2.below).below f4.below).only (Ze.of_upd (T:=[173]) h2 h0 (by decide)) (by decide)).only (Ze.of_upd (T:=[35]) h5 j1 (by decide)) (by decide)).below e5.below).only (Ze.of_grown (T:=[3]) b3 a2 (by decide)) (by decide)).only (Ze.of_upd (T:=[119]) e6 a1 (by decide)) (by decide)).below j6
    refine ze 3 (v6 _ _ _ ⟨{ s with looked:=s.looked+1,bs:=s.bs++[t.no] },(Yt l t i0 h7 (Zt (inB l t.no))++r),pe,l0,pf,ce,l3,cf,fv,mz,lp,rfl,rfl,hB,z1,kx,hz,ng,hs,(Mj.of ic rfl),(Yf.below_visits fo jq y6),jc,e3.inner i0 h7 k7 s3 n9 jb,n8⟩ ?_)
    show 20*(fuel.toNat-(s.looked+1))+(Yt l t i0 h7 (Zt (inB l t.no))++r).length<20*(fuel.toNat-s.looked)+ts.length
    rw[List.length_append,Vz,bf]
    omega
   refine xbs 0 1 [V0 t.no] 3 fun wu yf x9=>?_
   have ed:=bln hB nd.below
   have g105:=x9.ge ed
   have qa:=Xc (size:=1) (n:=0) nd.blk vu rfl (by decide)
   have ae:=Zx qa x9
   have et:=Zb qa x9.below
   have w6:=bln ed x9.below
   refine ybi (.o [] 3) (.t h8.heap.size [3]) fun _ _ _ _ zJ zQ zo zx zy zK=>Zw (m:=t.way.length) (news:=(t.way.map V0)) (V0 0) 1 8 (t.way.length) ((t.way.map V0)) zo Tryz.underlying33 (by kernel_rfl) rfl (by decide) zx et zy (w7.below w6) (by simp) (Vl _) (by unfold maxLen;omega) (by omega) w6.size (by omega) (by rfl) fun vk vn ww pa di el=>?_
   refine zK _ _ (Zu el di et (by decide)) ?_
   have tl:=x9.blk.grown3 di ae
   have fb:=w6.trans el
   refine ybi (.o [] 7) (.t h8.heap.size [3]) fun _ _ _ _ zJ zQ zo zx zy zK=>Zw (m:=1) (news:=[V0 t.no]) (V0 0) 1 8 ((t.way++[t.no]).length) (((t.way++[t.no]).map V0)) zo Tryz.underlying33 (by kernel_rfl) rfl (by decide) zx pa zy (tl.sl 1 1 (by decide) (by decide)) rfl (by simp[Value.oneCell']) (by unfold maxLen;omega) (by omega) fb.size (by simp) (by simp) fun c5 c8 zs y5 kr fg=>?_
   refine zK _ _ (Zu fg kr pa (by decide)) ?_
   have ma:=fb.trans fg
   refine zl (.r [8] 14) 186 (fun zm bc V=>∃ (i:Nat) (pq:O0) (cq:Nat),bc=[(0,P0 bm),(2,V0 tree),(3,V0 fuel),(8,P0 b1),(9,P0 b2),(10,.slice (Qu aw 1 cw 5) (ts.length-1) (cw-1)),(11,P0 b7),(12,P0 nb),(15,.slice c5 ((t.way++[t.no]).length) c8),(16,.slice pq i cq),(17,V0 (i:Int))]∧zm=(Zt (inB l t.no))-((i:Int)).toNat∧Below h8.heap.size h8 V∧V.ownsRow h8.heap.size 216 5 (.slice pq i cq) i ((Yt l t c5 c8 i).flatMap wtC)∧V.ownsRow h8.heap.size 3 1 (.slice c5 ((t.way++[t.no]).length) c8) ((t.way++[t.no]).length) ((t.way++[t.no]).map V0)∧i≤(Zt (inB l t.no))) ⟨0,_,_,rfl,rfl,ma,World.ownsRow_nil _ _ _ _,y5,Nat.zero_le _⟩ ?_
   rintro _ _ W108 ⟨i,pq,cq,rfl,rfl,f0,s4,y5,hi⟩ vz dr zn
   refine xl 5 ((f5.below f0).cell (i:=2) rfl) ?_
   refine xid 4 ((i:Int)<(↑(Zt (inB l t.no)):Int)) (fun ov=>?_) (fun ov=>?_)
   ·refine xl 7 ((f5.below f0).cell (i:=3) rfl) ?_
    have b8:=Zh (e6.own2 (Zf (Zb (h5.own2 (h2.own2 (Zb (Zb (Zg iy k1.size) i2.below) f4.below) h0 (by decide)) j1 (by decide)) e5.below) b3 a2 (by decide)) a1 (by decide))
    refine xx 1 _ (Zt (inB l t.no)) i 1 (Strs.elem (V:=Qy l t.no) b8 (Vo _ _) (k:=i) (by omega)).1 ?_
    refine xl 0 ((Strs.elem (V:=Qy l t.no) (b8.below f0) (Vo _ _) (k:=i) (by omega)).2) ?_
    refine xr 0 (args:=#[.string ⟨((Qy l t.no).getD i []).toArray⟩]) (Hr ((Qy l t.no).getD i []) _ (Je _ _ _)) fun wl m1=>?_
    refine xin 14 (Xo ((Qy l t.no).getD i [])) (0:Int) (fun af=>?_) (fun af=>?_)
    ·have z3:=af
     have t2:=bln f0 m1
     refine xl 4 ((b5.below t2).cell (i:=0) rfl) ?_
     refine xl 1 ((b5.below t2).cell (i:=3) rfl) ?_
     refine xbs 2 1 [V0 t.no,V0 0,V0 0,.slice t.wa t.way.length t.wc,V0 (Xo ((Qy l t.no).getD i []))] 216 fun b112 W112 v0=>?_
     have yv:=v0.ge t2
     have ee:=Zb s4 m1
     have lg:=Zx ee v0
     have dg:=Zb ee v0.below
     have ep:=bln t2 v0.below
     refine xbi 0 fun _ _ _ _ zJ zQ zo zx zy zK=>Zw (m:=1) (news:=[V0 t.no,V0 0,V0 0,.slice t.wa t.way.length t.wc,V0 (Xo ((Qy l t.no).getD i []))]) (.agg #[V0 0,V0 0,V0 0,S0,V0 0]) 5 56 (i+1) (((Yt l t c5 c8 (i+1)).flatMap wtC)) zo Tryz.underlying217 (by kernel_rfl) rfl (by decide) zx dg zy (v0.blk.sl 1 1 (by decide) (by decide)) rfl (by simp[Value.oneCell']) (by unfold maxLen;omega) (by omega) ep.size (by rfl) (by rw[Vx,List.flatMap_append,show Vc l t c5 c8 i=⟨t.no,0,0,t.way,Xo ((Qy l t.no).getD i []),t.wa,t.wc⟩ from by unfold Vc;rw[if_neg z3]];rfl) fun vb ve wo sz jj qp=>?_
     refine zK _ _ ?_
     refine xwm 9 ((i:Int)+1) (↑(i+1):Int) ?_
     have lc:=ep.trans qp
     have ik:=Zf (Zb (Zb y5 m1) v0.below) jj dg (by decide)
     exact ze 2 (dr _ _ _ ⟨i+1,_,_,rfl,rfl,lc,sz,ik,by omega⟩ (by omega))
    have z3:=af
    have s6:=bln f0 m1
    refine xlv 5 ((b5.below s6).rpp 1 2) ?_
    refine xl 1 ((f5.below s6).cell (i:=2) rfl) ?_
    have v8:(Ya l t.no).length=(Zt (inB l t.no)):=Qe _ _
    have pn:=Bm (Jg n9).2.1 (i:=i) (by rw[v8];omega)
    have j0:=Zh (e6.own2 r2 a1 (by decide))
    refine xr 1 (args:=#[.agg #[V0 t.lo,V0 t.hi],.slice kp (Zt (inB l t.no)) kc,V0 (i:Int)]) ((Hu t.lo t.hi (i:Int) _ (Ya l t.no) _ ⟨by omega,by omega⟩ (by rw[v8];omega) (Uz (j0.below s6) v8)).mono (fun _ _ h=>by rw[pn] at h;exact h)) fun xh z5=>?_
    refine xa 3 [V0 0,V0 0] 214 fun wr vy p4=>?_
    have cr:=bln s6 z5
    have tf:=p4.ge cr
    refine xsv 0 p4.blk [V0 ((Xg t.hi (Ya l t.no) i).1),V0 ((Xg t.hi (Ya l t.no) i).2)] fun W116 gy uq=>?_
    refine xlv 6 uq.rp ?_
    refine xbs 2 1 [V0 (↑(Zo ((Qy l t.no).getD i [])):Int),V0 ((Xg t.hi (Ya l t.no) i).1),V0 ((Xg t.hi (Ya l t.no) i).2),.slice c5 ((t.way++[t.no]).length) c8,V0 0] 216 fun zj wm u1=>?_
    have ev:=gy.below (bln cr p4.below) tf
    have xo:=u1.ge ev
    have df:=gy.own2 (Zb (Zb (Zb s4 m1) z5) p4.below) p4.blk (by decide)
    have lj:=Zx df u1
    have cz:=Zb df u1.below
    have br:=bln ev u1.below
    refine xbi 0 fun _ _ _ _ zJ zQ zo zx zy zK=>Zw (m:=1) (news:=[V0 (↑(Zo ((Qy l t.no).getD i [])):Int),V0 ((Xg t.hi (Ya l t.no) i).1),V0 ((Xg t.hi (Ya l t.no) i).2),.slice c5 ((t.way++[t.no]).length) c8,V0 0]) (.agg #[V0 0,V0 0,V0 0,S0,V0 0]) 5 56 (i+1) (((Yt l t c5 c8 (i+1)).flatMap wtC)) zo Tryz.underlying217 (by kernel_rfl) rfl (by decide) zx cz zy (u1.blk.sl 1 1 (by decide) (by decide)) rfl (by simp[Value.oneCell']) (by unfold maxLen;omega) (by omega) br.size (by rfl) (by rw[Vx,List.flatMap_append,show Vc l t c5 c8 i=⟨Zo ((Qy l t.no).getD i []),(Xg t.hi (Ya l t.no) i).1,(Xg t.hi (Ya l t.no) i).2,t.way++[t.no],0,c5,c8⟩ from by unfold Vc;rw[if_pos z3]];rfl) fun vq vl xj um lr rk=>?_
    refine zK _ _ ?_
    refine xwm 6 ((i:Int)+1) (↑(i+1):Int) ?_
    have ml:=br.trans rk
    have fr:=Zf (Zb (gy.own2 (Zb (Zb (Zb y5 m1) z5) p4.below) p4.blk (by decide)) u1.below) lr cz (by decide)
    exact ze 2 (dr _ _ _ ⟨i+1,_,_,rfl,rfl,ml,um,fr,by omega⟩ (by omega))
   have e8:=((((((((((q9.below n7.below).updN u8 n7 rfl).only (Ze.of_upd (T:=[119]) i1 a0 (by decide)) (by decide)).below a3).below i2.below).below f4.below).only (Ze.of_upd (T:=[173]) h2 h0 (by decide)) (by decide)).only (Ze.of_upd (T:=[35]) h5 j1 (by decide)) (by decide)).below e5.below).only (Ze.of_grown (T:=[3]) b3 a2 (by decide)) (by decide)).only (Ze.of_upd (T:=[119]) e6 a1 (by decide)) (by decide)
   refine xbi 8 fun _ _ _ _ zJ zQ zo zx zy zK=>Zw (m:=(ts.length-1)) (news:=(r.flatMap wtC)) (.agg #[V0 0,V0 0,V0 0,S0,V0 0]) 5 56 ((Yt l t c5 c8 (Zt (inB l t.no))++r).length) (((Yt l t c5 c8 (Zt (inB l t.no))++r).flatMap wtC)) zo Tryz.underlying217 (by kernel_rfl) rfl (by decide) zx s4 zy ((e8.below f0).slN j9) (by rw[Ja Nh,bf];rfl) (Zhn r) (by unfold maxLen;omega) (by omega) f0.size (by rw[List.length_append,Vz,bf];omega) (by rw[List.flatMap_append,show i=(Zt (inB l t.no)) by omega]) fun js kt td ty qh mq=>?_
   refine zK _ _ ?_
   have x5:=Zf y5 qh s4 (by decide)
   have y6:=(Vg.of_lt ia x5 (Nat.le_refl _)).symm
   have jl:=f0.trans mq
   have k0:Below h8.heap.size h8 td:=jl
   have cv:w.heap.size≤h8.heap.size:=u2.size
   have gd:=Zg ty cv
   have hb:=n6.below k0
   have hr:=Zg x5 cv
   have hB:=bln u2 k0
   have y2:=(e6.blk (((h5.blkT (h2.blkT ((((i1.blk (u8.blkT (b0.below n7.below) n7.blk (by decide)) (Ne.symm (Ne.symm a7))).below a3).below i2.below).below f4.below) h0 (by decide)) j1 (by decide)).below e5.below).grown b3 a2 (by decide)) (Ne.symm (Ne.symm a7))).below k0
   have km:=p3.below k0
   have hy:=Zb (e6.own2 (Zf (Zb (h5.own2 (h2.own2 (Zb (Zb (Zb (i1.own2 (u8.own2 (Zb o1 n7.below) n7.blk (by decide)) a0 (by decide)) a3) i2.below) f4.below) h0 (by decide)) j1 (by decide)) e5.below) b3 a2 (by decide)) a1 (by decide)) k0
   have kq:=Zb r4 k0
   have gx:=Zb (e6.own2 (Zf (Zb (h5.own3 (h2.own2 (Zb l2 f4.below) h0 (by decide)) k2) e5.below) b3 a2 (by decide)) a1 (by decide)) k0
   have ld:=((((((((m7.below a3).below i2.below).below f4.below).only (Ze.of_upd (T:=[173]) h2 h0 (by decide)) (by decide)).only (Ze.of_upd (T:=[35]) h5 j1 (by decide)) (by decide)).below e5.below).only (Ze.of_grown (T:=[3]) b3 a2 (by decide)) (by decide)).only (Ze.of_upd (T:=[119]) e6 a1 (by decide)) (by decide)).below k0
   refine ze 3 (v6 _ _ _ ⟨{ s with looked:=s.looked+1,bs:=s.bs++[t.no] },(Yt l t c5 c8 (Zt (inB l t.no))++r),pe,l0,pf,ce,l3,cf,fv,js,kt,rfl,rfl,hB,y2,km,hy,kq,gx,(Mj.of gd rfl),(Yf.below_visits hb hr y6),ld,e3.inner c5 c8 k7 s3 n9 jb,n8⟩ ?_)
   show 20*(fuel.toNat-(s.looked+1))+(Yt l t c5 c8 (Zt (inB l t.no))++r).length<20*(fuel.toNat-s.looked)+ts.length
   rw[List.length_append,Vz,bf]
   omega
  refine xbs 0 1 [V0 t.no] 3 fun wi wn ay=>?_
  have zd:=ay.ge hB
  refine xb0 (.o [] 0) 3 fun uk W122 ah=>?_
  have u5:=ah.ne ay.blk
  have cu:=bln hB ay.below
  have tc:=ah.ge cu
  have kh:=Xc (size:=1) (n:=0) ah.blk tc rfl (by decide)
  have z4:=bln cu ah.below
  refine ybi (.o [] 3) (.t h8.heap.size [3]) fun _ _ _ _ zJ zQ zo zx zy zK=>Zw (m:=t.way.length) (news:=(t.way.map V0)) (V0 0) 1 8 (t.way.length) ((t.way.map V0)) zo Tryz.underlying33 (by kernel_rfl) rfl (by decide) zx kh zy (w7.below z4) (by simp) (Vl _) (by unfold maxLen;omega) (by omega) z4.size (by omega) (by rfl) fun vs vf yg og bu dm=>?_
  refine zK _ _ (Zu dm bu kh (by decide)) ?_
  have hu:=(ay.blk.below ah.below).grown3 bu (fun j hj=>by obtain rfl:uk=j:=Option.some.inj hj;exact(Ne.symm u5))
  have eh:=z4.trans dm
  refine ybi (.o [] 7) (.t h8.heap.size [3]) fun _ _ _ _ zJ zQ zo zx zy zK=>Zw (m:=1) (news:=[V0 t.no]) (V0 0) 1 8 ((t.way++[t.no]).length) (((t.way++[t.no]).map V0)) zo Tryz.underlying33 (by kernel_rfl) rfl (by decide) zx og zy (hu.sl 1 1 (by decide) (by decide)) rfl (by simp[Value.oneCell']) (by unfold maxLen;omega) (by omega) eh.size (by simp) (by simp) fun c7 c6 zf z7 ny dc=>?_
  refine zK _ _ (Zu dc ny og (by decide)) ?_
  have kw:=eh.trans dc
  refine zl (.r [8] 14) 186 (fun zm bc V=>∃ (i:Nat) (pq:O0) (cq:Nat),bc=[(0,P0 bm),(2,V0 tree),(3,V0 fuel),(8,P0 b1),(9,P0 b2),(10,.slice (Qu aw 1 cw 5) (ts.length-1) (cw-1)),(11,P0 b7),(12,P0 nb),(15,.slice c7 ((t.way++[t.no]).length) c6),(16,.slice pq i cq),(17,V0 (i:Int))]∧zm=(Zt (inB l t.no))-((i:Int)).toNat∧Below h8.heap.size h8 V∧V.ownsRow h8.heap.size 216 5 (.slice pq i cq) i ((Yt l t c7 c6 i).flatMap wtC)∧V.ownsRow h8.heap.size 3 1 (.slice c7 ((t.way++[t.no]).length) c6) ((t.way++[t.no]).length) ((t.way++[t.no]).map V0)∧i≤(Zt (inB l t.no))) ⟨0,_,_,rfl,rfl,kw,World.ownsRow_nil _ _ _ _,z7,Nat.zero_le _⟩ ?_
  rintro _ _ zz ⟨i,pq,cq,rfl,rfl,f6,s4,z7,hi⟩ wz cj wg
  refine xl 5 ((f5.below f6).cell (i:=2) rfl) ?_
  refine xid 4 ((i:Int)<(↑(Zt (inB l t.no)):Int)) (fun oz=>?_) (fun oz=>?_)
  ·refine xl 7 ((f5.below f6).cell (i:=3) rfl) ?_
   have b8:=Zh (e6.own2 (Zf (Zb (h5.own2 (h2.own2 (Zb (Zb (Zg iy k1.size) i2.below) f4.below) h0 (by decide)) j1 (by decide)) e5.below) b3 a2 (by decide)) a1 (by decide))
   refine xx 1 _ (Zt (inB l t.no)) i 1 (Strs.elem (V:=Qy l t.no) b8 (Vo _ _) (k:=i) (by omega)).1 ?_
   refine xl 0 ((Strs.elem (V:=Qy l t.no) (b8.below f6) (Vo _ _) (k:=i) (by omega)).2) ?_
   refine xr 0 (args:=#[.string ⟨((Qy l t.no).getD i []).toArray⟩]) (Hr ((Qy l t.no).getD i []) _ (Je _ _ _)) fun W127 l9=>?_
   refine xin 14 (Xo ((Qy l t.no).getD i [])) (0:Int) (fun v7=>?_) (fun v7=>?_)
   ·have z3:=v7
    have r3:=bln f6 l9
    refine xl 4 ((b5.below r3).cell (i:=0) rfl) ?_
    refine xl 1 ((b5.below r3).cell (i:=3) rfl) ?_
    refine xbs 2 1 [V0 t.no,V0 0,V0 0,.slice t.wa t.way.length t.wc,V0 (Xo ((Qy l t.no).getD i []))] 216 fun yq W129 t8=>?_
    have ye:=t8.ge r3
    have cx:=Zb s4 l9
    have ls:=Zx cx t8
    have x3:=Zb cx t8.below
    have eq:=bln r3 t8.below
    refine xbi 0 fun _ _ _ _ zJ zQ zo zx zy zK=>Zw (m:=1) (news:=[V0 t.no,V0 0,V0 0,.slice t.wa t.way.length t.wc,V0 (Xo ((Qy l t.no).getD i []))]) (.agg #[V0 0,V0 0,V0 0,S0,V0 0]) 5 56 (i+1) (((Yt l t c7 c6 (i+1)).flatMap wtC)) zo Tryz.underlying217 (by kernel_rfl) rfl (by decide) zx x3 zy (t8.blk.sl 1 1 (by decide) (by decide)) rfl (by simp[Value.oneCell']) (by unfold maxLen;omega) (by omega) eq.size (by rfl) (by rw[Vx,List.flatMap_append,show Vc l t c7 c6 i=⟨t.no,0,0,t.way,Xo ((Qy l t.no).getD i []),t.wa,t.wc⟩ from by unfold Vc;rw[if_neg z3]];rfl) fun vt vd wp uy mr jx=>?_
    refine zK _ _ ?_
    refine xwm 9 ((i:Int)+1) (↑(i+1):Int) ?_
    have os:=eq.trans jx
    have gb:=Zf (Zb (Zb z7 l9) t8.below) mr x3 (by decide)
    exact ze 2 (cj _ _ _ ⟨i+1,_,_,rfl,rfl,os,uy,gb,by omega⟩ (by omega))
   have z3:=v7
   have s9:=bln f6 l9
   refine xlv 5 ((b5.below s9).rpp 1 2) ?_
   refine xl 1 ((f5.below s9).cell (i:=2) rfl) ?_
   have v8:(Ya l t.no).length=(Zt (inB l t.no)):=Qe _ _
   have pn:=Bm (Jg n9).2.1 (i:=i) (by rw[v8];omega)
   have j0:=Zh (e6.own2 r2 a1 (by decide))
   refine xr 1 (args:=#[.agg #[V0 t.lo,V0 t.hi],.slice kp (Zt (inB l t.no)) kc,V0 (i:Int)]) ((Hu t.lo t.hi (i:Int) _ (Ya l t.no) _ ⟨by omega,by omega⟩ (by rw[v8];omega) (Uz (j0.below s9) v8)).mono (fun _ _ h=>by rw[pn] at h;exact h)) fun yz w5=>?_
   refine xa 3 [V0 0,V0 0] 214 fun yj wj q5=>?_
   have ck:=bln s9 w5
   have uf:=q5.ge ck
   refine xsv 0 q5.blk [V0 ((Xg t.hi (Ya l t.no) i).1),V0 ((Xg t.hi (Ya l t.no) i).2)] fun ym ht ui=>?_
   refine xlv 6 ui.rp ?_
   refine xbs 2 1 [V0 (↑(Zo ((Qy l t.no).getD i [])):Int),V0 ((Xg t.hi (Ya l t.no) i).1),V0 ((Xg t.hi (Ya l t.no) i).2),.slice c7 ((t.way++[t.no]).length) c6,V0 0] 216 fun zi xt v5=>?_
   have bx:=ht.below (bln ck q5.below) uf
   have g134:=v5.ge bx
   have ab:=ht.own2 (Zb (Zb (Zb s4 l9) w5) q5.below) q5.blk (by decide)
   have om:=Zx ab v5
   have x7:=Zb ab v5.below
   have eg:=bln bx v5.below
   refine xbi 0 fun _ _ _ _ zJ zQ zo zx zy zK=>Zw (m:=1) (news:=[V0 (↑(Zo ((Qy l t.no).getD i [])):Int),V0 ((Xg t.hi (Ya l t.no) i).1),V0 ((Xg t.hi (Ya l t.no) i).2),.slice c7 ((t.way++[t.no]).length) c6,V0 0]) (.agg #[V0 0,V0 0,V0 0,S0,V0 0]) 5 56 (i+1) (((Yt l t c7 c6 (i+1)).flatMap wtC)) zo Tryz.underlying217 (by kernel_rfl) rfl (by decide) zx x7 zy (v5.blk.sl 1 1 (by decide) (by decide)) rfl (by simp[Value.oneCell']) (by unfold maxLen;omega) (by omega) eg.size (by rfl) (by rw[Vx,List.flatMap_append,show Vc l t c7 c6 i=⟨Zo ((Qy l t.no).getD i []),(Xg t.hi (Ya l t.no) i).1,(Xg t.hi (Ya l t.no) i).2,t.way++[t.no],0,c7,c6⟩ from by unfold Vc;rw[if_pos z3]];rfl) fun uz vo yp sr nn lm=>?_
   refine zK _ _ ?_
   refine xwm 6 ((i:Int)+1) (↑(i+1):Int) ?_
   have jg:=eg.trans lm
   have gg:=Zf (Zb (ht.own2 (Zb (Zb (Zb z7 l9) w5) q5.below) q5.blk (by decide)) v5.below) nn x7 (by decide)
   exact ze 2 (cj _ _ _ ⟨i+1,_,_,rfl,rfl,jg,sr,gg,by omega⟩ (by omega))
  have e8:=((((((((((q9.below n7.below).updN u8 n7 rfl).only (Ze.of_upd (T:=[119]) i1 a0 (by decide)) (by decide)).below a3).below i2.below).below f4.below).only (Ze.of_upd (T:=[173]) h2 h0 (by decide)) (by decide)).only (Ze.of_upd (T:=[35]) h5 j1 (by decide)) (by decide)).below e5.below).only (Ze.of_grown (T:=[3]) b3 a2 (by decide)) (by decide)).only (Ze.of_upd (T:=[119]) e6 a1 (by decide)) (by decide)
  refine xbi 8 fun _ _ _ _ zJ zQ zo zx zy zK=>Zw (m:=(ts.length-1)) (news:=(r.flatMap wtC)) (.agg #[V0 0,V0 0,V0 0,S0,V0 0]) 5 56 ((Yt l t c7 c6 (Zt (inB l t.no))++r).length) (((Yt l t c7 c6 (Zt (inB l t.no))++r).flatMap wtC)) zo Tryz.underlying217 (by kernel_rfl) rfl (by decide) zx s4 zy ((e8.below f6).slN j9) (by rw[Ja Nh,bf];rfl) (Zhn r) (by unfold maxLen;omega) (by omega) f6.size (by rw[List.length_append,Vz,bf];omega) (by rw[List.flatMap_append,show i=(Zt (inB l t.no)) by omega]) fun kd mp ug sq oa ox=>?_
  refine zK _ _ ?_
  have ac:=Zf z7 oa s4 (by decide)
  have y6:=(Vg.of_lt ia ac (Nat.le_refl _)).symm
  have oq:=f6.trans ox
  have j8:Below h8.heap.size h8 ug:=oq
  have bn:w.heap.size≤h8.heap.size:=u2.size
  have gk:=Zg sq bn
  have ie:=n6.below j8
  have hn:=Zg ac bn
  have hB:=bln u2 j8
  have ag:=(e6.blk (((h5.blkT (h2.blkT ((((i1.blk (u8.blkT (b0.below n7.below) n7.blk (by decide)) (Ne.symm (Ne.symm a7))).below a3).below i2.below).below f4.below) h0 (by decide)) j1 (by decide)).below e5.below).grown b3 a2 (by decide)) (Ne.symm (Ne.symm a7))).below j8
  have ri:=p3.below j8
  have hg:=Zb (e6.own2 (Zf (Zb (h5.own2 (h2.own2 (Zb (Zb (Zb (i1.own2 (u8.own2 (Zb o1 n7.below) n7.blk (by decide)) a0 (by decide)) a3) i2.below) f4.below) h0 (by decide)) j1 (by decide)) e5.below) b3 a2 (by decide)) a1 (by decide)) j8
  have jz:=Zb r4 j8
  have fy:=Zb (e6.own2 (Zf (Zb (h5.own3 (h2.own2 (Zb l2 f4.below) h0 (by decide)) k2) e5.below) b3 a2 (by decide)) a1 (by decide)) j8
  have lz:=((((((((m7.below a3).below i2.below).below f4.below).only (Ze.of_upd (T:=[173]) h2 h0 (by decide)) (by decide)).only (Ze.of_upd (T:=[35]) h5 j1 (by decide)) (by decide)).below e5.below).only (Ze.of_grown (T:=[3]) b3 a2 (by decide)) (by decide)).only (Ze.of_upd (T:=[119]) e6 a1 (by decide)) (by decide)).below j8
  refine ze 3 (v6 _ _ _ ⟨{ s with looked:=s.looked+1,bs:=s.bs++[t.no] },(Yt l t c7 c6 (Zt (inB l t.no))++r),pe,l0,pf,ce,l3,cf,fv,kd,mp,rfl,rfl,hB,ag,ri,hg,jz,fy,(Mj.of gk rfl),(Yf.below_visits ie hn y6),lz,e3.inner c7 c6 k7 s3 n9 jb,n8⟩ ?_)
  show 20*(fuel.toNat-(s.looked+1))+(Yt l t c7 c6 (Zt (inB l t.no))++r).length<20*(fuel.toNat-s.looked)+ts.length
  rw[List.length_append,Vz,bf]
  omega
 have hcE:=ss
 refine xlv 7 m2.rp ?_
 refine xsv 0 b0 [.slice pe s.es.length ce,.slice pb s.bs.length cb,V0 s.deep,V0 (s.looked:Int),.slice pf fv.length cf] fun W138 x6 uc=>?_
 have g1:=n1.ge (B1 w)
 have rd:=x6.below p6 g1
 have ha:=x6.own2 o1 b0 (by decide)
 have il:=x6.own2 iu b0 (by decide)
 have fq:=x6.own2 p8 b0 (by decide)
 have mj:=vh.only (Ze.of_upd (T:=[119]) x6 b0 (by decide)) (by decide)
 refine xec 3 uc (.agg #[.slice pe s.es.length ce,.slice pb s.bs.length cb,V0 s.deep,V0 (s.looked:Int),.slice pf fv.length cf]) ?_
 obtain rfl:ts=[]:=by cases ts with
  | nil=>rfl
  | cons t r=>simp at hcE
 rw[rz.nil]
 exact⟨pe,pb,pf,ce,cb,cf,fv,rfl,rd,ha,il,fq,n8,mj⟩
theorem ImgR.mono{B B' b:Nat}{p:O0}{n c:Nat}{l:Bl}{w:World}(h:ImgR B b p n c l w)(hB:B'≤B):ImgR B' b p n c l w:=⟨h.blk,Zg h.row hB,h.hn⟩
theorem Zfv(a:O0)(c n m:Nat)(l:Bl)(w:World)(hn:l.length=n)(hm:min (n/256) 14400*256=m)(h:Bys w (.slice a n c) l)(hl:n≤100000000)(hc:n≤c) :
 C0 15 #[.slice a n c] w (Ko (fun w' r=>∃ b p c2,r=P0 b∧w.heap.size≤b∧ImgR w.heap.size b p m c2 (l.take m) w') w):=by
 subst hn hm
 refine(image_Of a c l w h hl hc).mono ?_
 rintro e W ⟨_,rfl,hb,b,p,c2,rfl,h1,h2,h3⟩
 exact⟨_,rfl,hb,b,p,c2,rfl,h1,h2,h3,by omega⟩
theorem Fu(l:Bl)(tree fuel:Int):∀ (d:Nat) (way:List Int) (no lo hi:Int) (s:WS),way.length+d≤20→(∀ f∈s.fs,f.1.length≤40)→∀ f∈(Xb l tree fuel d way no lo hi s).fs,f.1.length≤40
 | 0,_,_,_,_,s,_,h=>h
 | d+1,way,no,lo,hi,s,hw,h=>by
  have a0:∀ (c:Int) (s:WS),(∀ f∈s.fs,f.1.length≤40)→∀ f∈(Yn way [no] c s).fs,f.1.length≤40:=by
   intro c s h f hf
   simp only[Yn,List.mem_append,List.mem_singleton] at hf
   rcases hf with hf|rfl
   ·exact h f hf
   ·simp;omega
  unfold Xb
  split
  ·exact a0 _ _ h
  ·split
   ·exact a0 _ _ h
   ·split
    ·exact h
    ·refine Pt (V:=Xb l tree fuel d) (l:=l) (way:=way) (no:=no) (hi:=hi) (s:={ s with looked:=s.looked+1,bs:=s.bs++[no] }) (fun _ t=>∀ f∈t.fs,f.1.length≤40) h (Zt (inB l no)) ?_ fun _ _ _ _ q=>q
     intro i t _ _ q
     unfold Kd
     split
     ·exact Fu l tree fuel d (way++[no]) _ _ _ t (by simp;omega) q
     ·exact a0 _ _ q
theorem He(l:Bl)(root tree fuel:Int):∀ f∈(Zd l root tree fuel).fs,f.1.length≤40:=Fu l tree fuel 17 [] root _ _ ws0 (by decide) (by simp[ws0])
theorem Md{α:Type}{l:List α}{d:α}{i:Nat}(h:i<l.length):l.getD i d∈l:=by simp[List.getD,h]
theorem Kh.at{w:World}:∀ {fs:List (List Int×Int)} {vs:List Value},Kh w fs vs→∀ {j:Nat},j<fs.length→∃ ty x,vs[j]? = some (.iface ty x)∧Kl w ((fs.getD j ([],0)).1.map some) (some (fs.getD j ([],0)).2) (.iface ty x)
 | f::r,v::q,h,0,_=>by
  obtain⟨ty,x,rfl⟩:=h.1.iface
  exact⟨ty,x,rfl,h.1⟩
 | f::r,v::q,h,j+1,hj=>by
  obtain⟨ty,x,h1,h2⟩:=h.2.at (j:=j) (by simpa using hj)
  exact⟨ty,x,by simpa using h1,by simpa using h2⟩
 | [],_,_,j,hj=>absurd hj (by simp)
 | _::_,[],h,_,_=>h.elim
theorem Su(l:List Int):Ve (l.map some)=l:=by unfold Ve;simp[List.filterMap_map]
theorem Hz(l:Bl)(root tree fuel:Int):(Zd l root tree fuel).looked≤fuel.toNat∧(Zd l root tree fuel).bs.length≤(Zd l root tree fuel).looked∧(∀ x∈(Zd l root tree fuel).es,InBlk l tree x) ∧
 (Zd l root tree fuel).es.Pairwise (fun x y=>x.1<y.1)∧∀ f∈(Zd l root tree fuel).fs,f.1≠[]∧f.1.getD 0 0=root:=by
 obtain⟨es,fs,h⟩:=Nd l root tree fuel
 have h1:(Zd l root tree fuel).es=es:=by rw[h.esE];rfl
 have h2:(Zd l root tree fuel).fs=fs:=by rw[h.fsE];rfl
 have h3:=h.blks
 refine⟨Ui _ _ _ _,by simpa [ws0] using h3,fun x hx=>h.inb x (h1▸hx),by rw[h1];exact h.rise.1,fun f hf=>?_⟩
 obtain⟨q1,q2,_⟩:=h.flt f (h2▸hf)
 refine⟨q2,?_⟩
 cases e:f.1 with
 | nil=>exact absurd e q2
 | cons a r=>rw[e] at q1;simpa using q1
theorem Zav(l:List Int)(c:Int):Dw (l.map some) (some c)=c:=by simp[Dw,Nl]
def ft0:Ft:=⟨[],0,none,0⟩
structure WalkS(t:WS)(pe pb pf:Option Addr)(ce cb cf:Nat)(fv:List Value)(w:World):Prop where
 ents:Sts Vt w (.slice pe t.es.length ce) t.es
 blks:Ints w (.slice pb t.bs.length cb) t.bs
 flts:Sl w (.slice pf t.fs.length cf) t.fs.length fv
 fltv:Kh w t.fs fv
theorem WalkS.below{t:WS}{pe pb pf:O0}{ce cb cf:Nat}{fv:List Value}{w W:World}(h:WalkS t pe pb pf ce cb cf fv w)(hb:B0 w W):WalkS t pe pb pf ce cb cf fv W :=
 ⟨Sl.below h.ents hb,Sl.below h.blks hb,Sl.below h.flts hb,h.fltv.below hb⟩
structure RWalkS(t:WS)(pe pb pf:Option Addr)(ce cb cf:Nat)(fv:List Ft)(w:World):Prop where
 ents:Sts Vt w (.slice pe t.es.length ce) t.es
 blks:Ints w (.slice pb t.bs.length cb) t.bs
 flts:Sts Bu w (.slice pf fv.length cf) fv
 map:fv.map Yd=t.fs
 kept:∀ f∈fv,Ints w (.slice f.fa f.bl.length f.fc) f.bl
theorem RWalkS.below{t:WS}{pe pb pf:O0}{ce cb cf:Nat}{fv:List Ft}{w W:World}(h:RWalkS t pe pb pf ce cb cf fv w)(hb:B0 w W):RWalkS t pe pb pf ce cb cf fv W :=
 ⟨Sl.below h.ents hb,Sl.below h.blks hb,Sl.below h.flts hb,h.map,fun f hf=>Sl.below (h.kept f hf) hb⟩
theorem RWalkS.at_{t:WS}{pe pb pf:O0}{ce cb cf:Nat}{fv:List Ft}{w:World}(h:RWalkS t pe pb pf ce cb cf fv w){i:Nat}(hi:i<fv.length):t.fs.getD i ([],0)=((fv.getD i ft0).bl,(fv.getD i ft0).c):=by
 rw[←h.map];simp[List.getD,hi,Yd]
theorem RWalkS.len{t:WS}{pe pb pf:O0}{ce cb cf:Nat}{fv:List Ft}{w:World}(h:RWalkS t pe pb pf ce cb cf fv w):fv.length=t.fs.length:=by rw[←h.map];simp
def eL (S:WS):List (Option Int):=if S.fs=[] then [] else(S.fs.getD 0 ([],0)).1.map some
def eT (S:WS):Option Int:=if S.fs=[] then none else some (S.fs.getD 0 ([],0)).2
def wholeT(S:WS):WS:=if S.fs=[] then S else ws0
def wholeF(S:WS):List Int×Int:=if S.fs=[] then([],0) else S.fs.getD 0 ([],0)
theorem WalkV.mono{B B':Nat}{t:WS}{pe pb pf:O0}{ce cb cf:Nat}{fv:List Value}{w:World}(h:WalkV B t pe pb pf ce cb cf fv w)(hB:B'≤B):WalkV B' t pe pb pf ce cb cf fv w:=⟨Zg h.ents hB,Zg h.blks hB,Zg h.flts hB,h.fltv⟩
theorem WalkV.below{B:Nat}{t:WS}{pe pb pf:O0}{ce cb cf:Nat}{fv:List Value}{w W:World}(h:WalkV B t pe pb pf ce cb cf fv w)(hb:B0 w W):WalkV B t pe pb pf ce cb cf fv W:=⟨Zb h.ents hb,Zb h.blks hb,Zb h.flts hb,h.fltv.below hb⟩
theorem WalkV.only{B:Nat}{T:List TypeId}{t:WS}{pe pb pf:O0}{ce cb cf:Nat}{fv:List Value}{w W:World}(h:WalkV B t pe pb pf ce cb cf fv w)(hO:Ze T w W)(hT:T.contains 123=false∧T.contains 3=false∧T.contains 29=false∧T.contains 188=false):WalkV B t pe pb pf ce cb cf fv W:=⟨Zn h.ents hO hT.1,Zn h.blks hO hT.2.1,Zn h.flts hO hT.2.2.1,h.fltv.only hO hT.2.2.2⟩
structure RWalkV(B:Nat)(t:WS)(pe pb pf:Option Addr)(ce cb cf:Nat)(fv:List Ft)(w:World):Prop where
 ents:w.ownsRow B 123 3 (.slice pe t.es.length ce) t.es.length (t.es.flatMap Vt)
 blks:w.ownsRow B 3 1 (.slice pb t.bs.length cb) t.bs.length (t.bs.map (Value.int .i64))
 flts:w.ownsRow B 35 2 (.slice pf fv.length cf) fv.length (fv.flatMap Bu)
 map:fv.map Yd=t.fs
 kept:∀ f∈fv,Qr B w f.fa f.fc f.bl
theorem RWalkV.s{B:Nat}{t:WS}{pe pb pf:O0}{ce cb cf:Nat}{fv:List Ft}{w:World}(h:RWalkV B t pe pb pf ce cb cf fv w):RWalkS t pe pb pf ce cb cf fv w:=⟨Zh h.ents,Zh h.blks,Zh h.flts,h.map,fun f hf=>(h.kept f hf).ints⟩
theorem RWalkV.mono{B B':Nat}{t:WS}{pe pb pf:O0}{ce cb cf:Nat}{fv:List Ft}{w:World}(h:RWalkV B t pe pb pf ce cb cf fv w)(hB:B'≤B):RWalkV B' t pe pb pf ce cb cf fv w:=⟨Zg h.ents hB,Zg h.blks hB,Zg h.flts hB,h.map,fun f hf=>(h.kept f hf).mono hB⟩
theorem RWalkV.below{B:Nat}{t:WS}{pe pb pf:O0}{ce cb cf:Nat}{fv:List Ft}{w W:World}(h:RWalkV B t pe pb pf ce cb cf fv w)(hb:B0 w W):RWalkV B t pe pb pf ce cb cf fv W:=⟨Zb h.ents hb,Zb h.blks hb,Zb h.flts hb,h.map,fun f hf=>(h.kept f hf).below hb⟩
theorem RWalkV.only{B:Nat}{T:List TypeId}{t:WS}{pe pb pf:O0}{ce cb cf:Nat}{fv:List Ft}{w W:World}(h:RWalkV B t pe pb pf ce cb cf fv w)(hO:Ze T w W)(hT:T.contains 123=false∧T.contains 3=false∧T.contains 35=false):RWalkV B t pe pb pf ce cb cf fv W:=⟨Zn h.ents hO hT.1,Zn h.blks hO hT.2.1,Zn h.flts hO hT.2.2,h.map,fun f hf=>(h.kept f hf).only hO hT.2.1⟩
theorem WalkV.s{B:Nat}{t:WS}{pe pb pf:O0}{ce cb cf:Nat}{fv:List Value}{w:World}(h:WalkV B t pe pb pf ce cb cf fv w):WalkS t pe pb pf ce cb cf fv w:=⟨Zh h.ents,Zh h.blks,Zh h.flts,h.fltv⟩
theorem WalkV.zero(B:Nat)(w:World):WalkV B ws0 none none none 0 0 0 [] w:=⟨World.ownsRow_nil _ _ _ _,World.ownsRow_nil _ _ _ _,World.ownsRow_nil _ _ _ _,trivial⟩
theorem RWalkV.zero(B:Nat)(w:World):RWalkV B ws0 none none none 0 0 0 [] w:=⟨World.ownsRow_nil _ _ _ _,World.ownsRow_nil _ _ _ _,World.ownsRow_nil _ _ _ _,rfl,fun _ h=>by cases h⟩
theorem whole_bad{S:WS}(h:S.fs≠[]):wholeT S=ws0∧wholeF S=S.fs.getD 0 ([],0)∧eL S=(S.fs.getD 0 ([],0)).1.map some∧eT S=some (S.fs.getD 0 ([],0)).2:=by unfold wholeT wholeF eL eT;simp[h]
def rwalkC(t:WS)(pe pb pf:O0)(n ce cb cf:Nat):List Value:=[.slice pe t.es.length ce,.slice pb t.bs.length cb,V0 t.deep,V0 (t.looked:Int),.slice pf n cf]
theorem Zfq.s{S:WS}{w:World}{e:Ending}{w':World}(h:Zfq S w e w'):∃ (pe pb pf:O0) (ce cb cf:Nat) (fv:List Ft),e=.returned (.agg (rwalkC S pe pb pf fv.length ce cb cf).toArray)∧B0 w w'∧RWalkV w.heap.size S pe pb pf ce cb cf fv w':=by
 obtain⟨pe,pb,pf,ce,cb,cf,fv,rfl,hb,h1,h2,h3,h4,h5⟩:=h
 exact⟨pe,pb,pf,ce,cb,cf,fv,rfl,hb,h1,h2,h3,h4,fun f hf=>(h5 (Zhe f) (List.mem_map_of_mem hf)).1⟩
theorem RWalkS.first{t:WS}{pe pb pf:O0}{ce cb cf:Nat}{fv:List Ft}{w:World}(h:RWalkS t pe pb pf ce cb cf fv w)(hi:0<fv.length):wholeF t=((fv.getD 0 ft0).bl,(fv.getD 0 ft0).c)∧t.fs≠[]:=by
 have h1:=h.at_ hi
 have hz:t.fs≠[]:=by intro q;have:=h.len;rw[q,List.length_nil] at this;omega
 exact⟨by rw[(whole_bad hz).2.1,h1],hz⟩
theorem RWalkS.none{t:WS}{pe pb pf:O0}{ce cb cf:Nat}{fv:List Ft}{w:World}(h:RWalkS t pe pb pf ce cb cf fv w)(hi:¬ 0<fv.length):t.fs=[]:=by
 have:=h.len;exact List.length_eq_zero_iff.1 (by omega)
theorem ref_OfM(a:O0)(c n k:Nat)(l:Bl)(w:World)(hn:l.length=n)(hk:min (n/256) 14400=k)(h:Bys w (.slice a n c) l)(hl:n≤100000000) :
 C0 16 #[.slice a n c] w (Ko (fun w' r=>∃ bm p c2,r=P0 bm∧w.heap.size≤bm∧RefI w.heap.size bm p k c2 (l.take (k*256)) w') w):=by
 subst hn hk;exact ref_Of a c l w h hl
def Zfn(x:Ent):Mp:=(x.1,(Mb x.2.1:Int),(Ef x.2.1:Int))
end Go.Proofs.YtegcamkgeacjfaaGreatDoor
namespace Go.Proofs.YtegcamkgeacjfaaGreatDoor
set_option maxHeartbeats 8000000
set_option maxRecDepth 100000
open Go.RowKit Go.Extern.Stop Go.Stop Go.Extern
set_option linter.unusedVariables false
def dmgV(kind at_ code:Int):Value:=.agg #[V0 kind,V0 at_,V0 code]
theorem Bp{w:World}{B:Nat}{a b c:Int}{t:TypeId}(h:Blk w B [V0 a,V0 b,V0 c] t){fn:Func}{k:Nat}{tmps:Array Value}(hfn:fn.results=#[.cell k 100])(e:tmps.getD k undef=P0 B) :
 (results fn tmps).run Tryz.prog w=.ok (dmgV a b c) w:=by
 have c0:=h.cell (i:=0) rfl
 have c1:=h.cell (i:=1) rfl
 have c2:=h.cell (i:=2) rfl
 have e':tmps[k]?.getD undef=P0 B:=by simpa using e
 simp[results,hfn,go_sem,c0,c1,c2,e',dmgV]
theorem Xx(a b c:Int)(w:World):C0 56 #[V0 a,V0 b,V0 c] w (Ret (dmgV a b c) w):=by
 go_enter Tryz.func56,Tryz.ntmps56
 go_wp2_with fail
 exact bodyPost_ret (Bp (Blk.new w [V0 a,V0 b,V0 c] 100) rfl rfl) rfl ⟨rfl,blx _ _⟩
def Kr(l:List Int):Int:=l.getLast?.getD (-1)
theorem Aa{l:List Int}(h:l.length=0):Kr l = -1:=by rw[List.length_eq_zero_iff.1 h];rfl
theorem Tr{l:List Int}(h:0<l.length):Kr l=l[l.length-1]:=by
 rw[Kr,List.getLast?_eq_getElem?,List.getElem?_eq_getElem (by omega)];rfl
theorem Zbk(kind:Int)(t:Option Int)(l:List (Option Int))(v:Value)(w:World)(hlen:l.length≤1000000)(hg:Sm w)(hv:Kl w l t v) :
 C0 46 #[V0 kind,v] w (Ret (dmgV kind (Kr (Ve l)) (Dw l t)) w):=by
 have hB:=blx w (.cells #[V0 0,V0 0,V0 0] 100)
 have k0:=Blk.new w [V0 0,V0 0,V0 0] 100
 have a2:=Ac t l v _ hlen (hv.below hB)
 have a5:=fun(W:World) (hW:B0 w W)=>Zda t l v W (hg.below hW) (hv.below hW)
 clear hv hg hlen
 generalize Dw l t=c at a5 ⊢
 generalize Ve l=L at a2 ⊢
 obtain⟨q,hq⟩:∃ q,Kr L=q:=⟨_,rfl⟩
 rw[hq]
 have HQ:=Lib.hid hq;clear hq
 go_enter Tryz.func46,Tryz.ntmps46
 go_wp2_with fail
 refine a2.mono ?_
 rintro e w1 ⟨r,rfl,a3,h1⟩
 have a4:=bln hB a3
 have k1:=k0.below a3
 have hs:=Zh h1
 obtain⟨a,m,rfl⟩:=hs.slice
 have hC:=a5 w1 a4
 clear a3 k0 h1 hB a5 a2
 have hL:=hs.len
 by_cases h0:L.length=0
 ·have a6:=Lib.hid (Aa h0)
  have a7:¬ ((0:Int)<(L.length:Int)):=by omega
  go_wp2_with fail
  refine hC.mono ?_
  rintro e w2 ⟨rfl,a1⟩
  have k2:=k1.below a1
  have d0:=k2.cell (i:=0) rfl
  have d1:=k2.cell (i:=1) rfl
  have d2:=k2.cell (i:=2) rfl
  have f0:=k2.frozen 0
  have f1:=k2.frozen 1
  have f2:=k2.frozen 2
  go_wp2_with fail
  exact bodyPost_ret (Bp (((k2.set 0 _).set 1 _).set 2 _) rfl rfl) rfl ⟨by rw[←HQ.out,a6.out],(((bln a4 a1).setCell (Nat.le_refl _) _).setCell (Nat.le_refl _) _).setCell (Nat.le_refl _) _⟩
 ·have hp:0<L.length:=by omega
  have a6:=Lib.hid (Tr hp)
  have a7:(0:Int)<(L.length:Int):=by omega
  rcases Sl.at hs with hn|⟨b,a8,rfl,a0⟩
  ·rw[List.map_eq_nil_iff] at hn;subst hn;exact absurd hp (by simp)
  have ck:=a0 (L.length-1) (V0 L[L.length-1]) (by simp[List.getElem?_eq_getElem (show L.length-1<L.length by omega)])
  have z1:(L.length:Int)-1=((L.length-1:Nat):Int):=by omega
  have i1:(0:Int)≤((L.length-1:Nat):Int):=by omega
  have i2:((L.length-1:Nat):Int)<(L.length:Int):=by omega
  clear a0
  go_wp2_with fail
  refine hC.mono ?_
  rintro e w2 ⟨rfl,a1⟩
  have k2:=k1.below a1
  have d0:=k2.cell (i:=0) rfl
  have d1:=k2.cell (i:=1) rfl
  have d2:=k2.cell (i:=2) rfl
  have f0:=k2.frozen 0
  have f1:=k2.frozen 1
  have f2:=k2.frozen 2
  go_wp2_with fail
  exact bodyPost_ret (Bp (((k2.set 0 _).set 1 _).set 2 _) rfl rfl) rfl ⟨by rw[←HQ.out,a6.out],(((bln a4 a1).setCell (Nat.le_refl _) _).setCell (Nat.le_refl _) _).setCell (Nat.le_refl _) _⟩
theorem ref28_Of(kind:Int)(L:List Int)(c:Int)(v:Value)(w:World)(hv:FltV w v L c) :
 C0 48 #[V0 kind,v] w (Ret (dmgV kind (Kr L) c) w):=by
 obtain⟨s,rfl,a2⟩:=hv
 obtain⟨a,m,rfl⟩:=a2.slice
 have hL:=a2.len
 have hB:B0 w ((w.alloc (.cells #[.slice a L.length m,V0 c] 35)).alloc (.cells #[V0 0,V0 0,V0 0] 100)):=bln (blx _ _) (blx _ _)
 have k0:Blk ((w.alloc (.cells #[.slice a L.length m,V0 c] 35)).alloc (.cells #[V0 0,V0 0,V0 0] 100)) w.heap.size [.slice a L.length m,V0 c] 35:=(Blk.new _ _ _).alloc _
 have k1:=Blk.new (w.alloc (.cells #[.slice a L.length m,V0 c] 35)) [V0 0,V0 0,V0 0] 100
 simp only[World.size_alloc] at k1
 have hs:=a2.below hB
 obtain⟨q,hq⟩:∃ q,Kr L=q:=⟨_,rfl⟩
 rw[hq]
 have HQ:=Lib.hid hq;clear hq a2
 by_cases h0:L.length=0
 ·have a3:=Lib.hid (Aa h0)
  obtain rfl:=List.length_eq_zero_iff.1 h0
  simp only[List.length_nil] at hB k0 k1 hs ⊢
  go_enter Tryz.func48,Tryz.ntmps48
  go_wp2_with fail
  refine(Xx _ _ _ _).mono ?_
  rintro e w2 ⟨rfl,a1⟩
  have k2:=k1.below a1
  have d0:=k2.cell (i:=0) rfl
  have d1:=k2.cell (i:=1) rfl
  have d2:=k2.cell (i:=2) rfl
  have f0:=k2.frozen 0
  have f1:=k2.frozen 1
  have f2:=k2.frozen 2
  unfold dmgV
  go_wp2_with fail
  exact bodyPost_ret (Bp (((k2.set 0 _).set 1 _).set 2 _) rfl rfl) rfl ⟨by rw[←HQ.out,a3.out]<;>rfl,(((bln hB a1).setCell (by simp) _).setCell (by simp) _).setCell (by simp) _⟩
 ·have hp:0<L.length:=by omega
  have a3:=Lib.hid (Tr hp)
  have a5:(0:Int)<(L.length:Int):=by omega
  rcases Sl.at hs with hn|⟨b,a4,rfl,a0⟩
  ·rw[List.map_eq_nil_iff] at hn;subst hn;exact absurd hp (by simp)
  have ck:=a0 (L.length-1) (V0 L[L.length-1]) (by simp[List.getElem?_eq_getElem (show L.length-1<L.length by omega)])
  have z1:(L.length:Int)-1=((L.length-1:Nat):Int):=by omega
  have i1:(0:Int)≤((L.length-1:Nat):Int):=by omega
  have i2:((L.length-1:Nat):Int)<(L.length:Int):=by omega
  clear a0
  go_enter Tryz.func48,Tryz.ntmps48
  have kk:=k0.lt
  have c0:=k0.cell (i:=0) rfl
  have c1:=k0.cell (i:=1) rfl
  go_wp2_with fail
  refine(Xx _ _ _ _).mono ?_
  rintro e w2 ⟨rfl,a1⟩
  have k2:=k1.below a1
  have d0:=k2.cell (i:=0) rfl
  have d1:=k2.cell (i:=1) rfl
  have d2:=k2.cell (i:=2) rfl
  have f0:=k2.frozen 0
  have f1:=k2.frozen 1
  have f2:=k2.frozen 2
  unfold dmgV
  go_wp2_with fail
  exact bodyPost_ret (Bp (((k2.set 0 _).set 1 _).set 2 _) rfl rfl) rfl ⟨by rw[←HQ.out,a3.out]<;>rfl,(((bln hB a1).setCell (by simp) _).setCell (by simp) _).setCell (by simp) _⟩
end Go.Proofs.YtegcamkgeacjfaaGreatDoor
namespace Go.Proofs.YtegcamkgeacjfaaGreatDoor
set_option maxHeartbeats 8000000
set_option maxRecDepth 100000
open Go.RowKit Go.Extern.Stop Go.Stop Go.Extern
set_option linter.unusedVariables false
attribute [local irreducible] wpList wpAnyH Code.wp Oper.wp
def dmc (d:Int×Int×Int):List Value:=[V0 d.1,V0 d.2.1,V0 d.2.2]
theorem Rp(d:Int×Int×Int):(dmc d).length=3:=rfl
theorem run_dneq{a:Act}{o:Oper}{p q:Operand}(x y:Int×Int×Int)(ho:o.op=.binOp .neq 100 p q 100)(hx:a.eval p=.agg (dmc x).toArray)(hy:a.eval q=.agg (dmc y).toArray)(V:World) :
 (execOp a.eval o).run Tryz.prog V=.ok (.value (.bool (decide (x≠y)))) V:=by
 have h1:=Tryz.underlying100
 have h2:=Tryz.underlying3
 have h3:=Tryz.underlying63
 have h4:Tryz.prog.stoodInHeld 100=false:=by kernel_rfl
 have hb:(binOp .neq 100 (.agg (dmc x).toArray) (.agg (dmc y).toArray)).run Tryz.prog V=.ok (.bool (decide (x≠y))) V:=by
  obtain⟨x0,x1,x2⟩:=x
  obtain⟨y0,y1,y2⟩:=y
  by_cases e0:x0=y0
  ·subst e0
   by_cases e1:x1=y1
   ·subst e1
    by_cases e2:x2=y2
    ·subst e2;simp[dmc,go_sem,Program.fieldsOf,h1,h2,h3,h4,Op.eqFields]
    ·simp[dmc,go_sem,Program.fieldsOf,h1,h2,h3,h4,Op.eqFields,e2]
   ·simp[dmc,go_sem,Program.fieldsOf,h1,h2,h3,h4,Op.eqFields,e1]
  ·simp[dmc,go_sem,Program.fieldsOf,h1,h2,h3,h4,Op.eqFields,e0]
 have hg:=run_eqGuard_agg (P:=Tryz.prog) (w:=V) .neq 100 p q (dmc x).toArray (dmc y).toArray (by kernel_rfl)
 simp only[execOp,ho,hx,hy,Sem.run_bind,hg,Result.andThen_ok,hb]
 rfl
theorem Zfi{α:Type}{la lb:List α}(d:α){k:Nat}(h:la.take k=lb.take k)(hk:k<la.length)(hk2:k<lb.length)(he:la.getD k d=lb.getD k d):la.take (k+1)=lb.take (k+1):=by
 rw[List.take_succ_eq_append_getElem hk,List.take_succ_eq_append_getElem hk2,h]
 have e:la[k]=lb[k]:=by simpa [List.getD,List.getElem?_eq_getElem hk,List.getElem?_eq_getElem hk2] using he
 rw[e]
theorem Zc7(a b:O0)(ca cb:Nat)(la lb:List (Int×Int×Int))(w:World)(ha:Sts dmc w (.slice a la.length ca) la)(hb:Sts dmc w (.slice b lb.length cb) lb) :
 C0 21 #[.slice a la.length ca,.slice b lb.length cb] w (Ret (.bool (decide (la=lb))) w):=by
 have c2:=Sl.len ha
 refine calls_of_wp Tryz.func21 rfl ?_
 refine g_fr ⟨#[.slice a la.length ca,.slice b lb.length cb,undef,undef,undef,undef,undef,undef,undef,undef,undef,undef,undef,undef,undef,undef,undef,undef,undef,undef,undef,undef,undef,undef,undef,undef],[]⟩ (by kernel_rfl) ?_
 refine wp_seq ?_
 refine wp_region_lit ?_
 refine Yu 1 ⟨#[.slice a la.length ca,.slice b lb.length cb,undef,undef,.bool false,undef,undef,undef,undef,undef,undef,undef,undef,undef,undef,undef,undef,undef,undef,undef,undef,undef,undef,undef,undef,undef],[]⟩ (by kernel_rfl) ?_
 refine wpList_nil ?_
 refine wp_seq ?_
 refine wp_seq ?_
 refine wp_region_lit ?_
 refine Yu 5 ⟨#[.slice a la.length ca,.slice b lb.length cb,undef,undef,.bool false,undef,.slice a la.length ca,V0 (la.length:Int),.slice b lb.length cb,V0 (lb.length:Int),.bool ((la.length:Int) != (lb.length:Int)),undef,undef,undef,undef,undef,undef,undef,undef,undef,undef,undef,undef,undef,undef,undef],[]⟩ (by kernel_rfl) ?_
 refine wpList_nil ?_
 refine wp_cond_split (t:=((la.length:Int) != (lb.length:Int))) rfl (fun c0=>?_) (fun c0=>?_)
 ·have c0:=Qk c0
  refine wp_seq ?_
  refine wp_region_lit ?_
  refine Yu 1 ⟨#[.slice a la.length ca,.slice b lb.length cb,undef,undef,.bool false,undef,.slice a la.length ca,V0 (la.length:Int),.slice b lb.length cb,V0 (lb.length:Int),.bool ((la.length:Int) != (lb.length:Int)),undef,undef,undef,undef,undef,undef,undef,undef,undef,undef,undef,undef,undef,undef,undef],[]⟩ (by kernel_rfl) ?_
  refine wpList_nil ?_
  refine wp_ret ?_
  show bodyPost _ _ _ .ret _ _
  exact It (.bool false) rfl (by kernel_rfl) ⟨by rw[show decide (la=lb)=false by simp;rintro rfl;simp at *],(Below.refl _ _)⟩
 ·have c0:=Xn c0
  refine wp_skip ?_
  refine wp_seq ?_
  refine wp_seq ?_
  refine wp_region_lit ?_
  refine Yu 1 ⟨#[.slice a la.length ca,.slice b lb.length cb,undef,undef,.bool false,V0 0,.slice a la.length ca,V0 (la.length:Int),.slice b lb.length cb,V0 (lb.length:Int),.bool ((la.length:Int) != (lb.length:Int)),undef,undef,undef,undef,undef,undef,undef,undef,undef,undef,undef,undef,undef,undef,undef],[]⟩ (by kernel_rfl) ?_
  refine wpList_nil ?_
  refine wp_block ?_
  refine g_fr ⟨#[.slice a la.length ca,.slice b lb.length cb,undef,undef,.bool false,V0 0,.slice a la.length ca,V0 (la.length:Int),.slice b lb.length cb,V0 (lb.length:Int),.bool ((la.length:Int) != (lb.length:Int)),undef,undef,undef,undef,undef,undef,undef,undef,undef,undef,undef,undef,undef,undef,undef],[]⟩ (by kernel_rfl) ?_
  have hB:=Below.refl w.heap.size w
  refine wp_loop (fun c1 V=>∃ (k:Nat) (a7 b4 b5 b3 b2 a1 a0 b1 b0 a9 a8 a5 a6 a2 a3 a4:Value),c1=⟨#[.slice a la.length ca,.slice b lb.length cb,undef,undef,a7,V0 (k:Int),.slice a la.length ca,V0 (la.length:Int),.slice b lb.length cb,V0 (lb.length:Int),.bool ((la.length:Int) != (lb.length:Int)),b4,b5,b3,b2,a1,a0,b1,b0,a9,a8,a5,a6,a2,a3,a4],[]⟩∧B0 w V∧k≤la.length∧la.length=lb.length∧la.take k=lb.take k) (fun c1 V=>la.length-((intOf (c1.tmps.getD 5 undef))).toNat) ⟨0,_,_,_,_,_,_,_,_,_,_,_,_,_,_,_,_,rfl,hB,Nat.zero_le _,by omega,rfl⟩ ?_
  rintro _ W2 ⟨k,a7,b4,b5,b3,b2,a1,a0,b1,b0,a9,a8,a5,a6,a2,a3,a4,rfl,hB,hk,hl,ht⟩
  refine wp_seq ?_
  refine wp_seq ?_
  refine wp_region_lit ?_
  refine Yu 4 ⟨#[.slice a la.length ca,.slice b lb.length cb,undef,undef,a7,V0 (k:Int),.slice a la.length ca,V0 (la.length:Int),.slice b lb.length cb,V0 (lb.length:Int),.bool ((la.length:Int) != (lb.length:Int)),V0 (k:Int),.slice a la.length ca,V0 (la.length:Int),.bool (decide ((k:Int)<(la.length:Int))),a1,a0,b1,b0,a9,a8,a5,a6,a2,a3,a4],[]⟩ (by kernel_rfl) ?_
  refine wpList_nil ?_
  refine wp_cond_split (t:=decide ((k:Int)<(la.length:Int))) rfl (fun b8=>?_) (fun b8=>?_)
  ·have b8:=of_decide_eq_true b8
   refine wp_skip ?_
   refine wp_seq ?_
   refine wp_block ?_
   refine wp_seq ?_
   replace hB:=bln hB (Za W2)
   refine h_reg (Below (W2.drew).heap.size (W2.drew)) 9 rfl #[false,false,false,false,false,false,false,false,false] rfl (by kernel_rfl) (Below.refl _ _) ?_
   intro b6
   have b7:=hB
   refine Ap [0,1] 7 rfl #[true,true,false,false,false,false,false,false,false] ⟨#[.slice a la.length ca,.slice b lb.length cb,undef,undef,a7,V0 (k:Int),.slice a la.length ca,V0 (la.length:Int),.slice b lb.length cb,V0 (lb.length:Int),.bool ((la.length:Int) != (lb.length:Int)),V0 (k:Int),.slice a la.length ca,V0 (la.length:Int),.bool (decide ((k:Int)<(la.length:Int))),a1,a0,.slice a la.length ca,V0 (k:Int),a9,a8,a5,a6,a2,a3,a4],[]⟩ (by kernel_rfl) (fun _ _ _ _ _ h=>h) (by kernel_rfl) b6 ?_
   refine h_val 2 6 rfl (.pointer (some (Xq a (k*3)))) rfl (by kernel_rfl) (by kernel_rfl) (by kernel_rfl) (fun _ _ _ _ _ h=>h) (by kernel_rfl) (fun V _=>Wd (k:=k) rfl rfl rfl rfl (by omega) (Sts.cell ha Rp (0,0,0) (k:=k) (i:=0) (by omega) rfl).1 Tryz.underlying47 (by kernel_rfl) V) b6 ?_
   refine h_val 3 5 rfl (.agg #[V0 ((la.getD k (0,0,0)).1),V0 ((la.getD k (0,0,0)).2.1),V0 ((la.getD k (0,0,0)).2.2)]) rfl (by kernel_rfl) (by kernel_rfl) (by kernel_rfl) (fun _ _ _ _ _ h=>h) (by kernel_rfl) (fun V hV=>Ra (k:=k) Rp (0,0,0) _ rfl rfl ((ha.below b7).below hV) (by omega) (by decide) Tryz.underlying100 rfl (by kernel_rfl)) b6 ?_
   refine Ap [4,5] 3 rfl #[true,true,true,true,true,true,false,false,false] ⟨#[.slice a la.length ca,.slice b lb.length cb,undef,undef,a7,V0 (k:Int),.slice a la.length ca,V0 (la.length:Int),.slice b lb.length cb,V0 (lb.length:Int),.bool ((la.length:Int) != (lb.length:Int)),V0 (k:Int),.slice a la.length ca,V0 (la.length:Int),.bool (decide ((k:Int)<(la.length:Int))),a1,a0,.slice a la.length ca,V0 (k:Int),.pointer (some (Xq a (k*3))),.agg #[V0 ((la.getD k (0,0,0)).1),V0 ((la.getD k (0,0,0)).2.1),V0 ((la.getD k (0,0,0)).2.2)],.slice b lb.length cb,V0 (k:Int),a2,a3,a4],[]⟩ (by kernel_rfl) (fun _ _ _ _ _ h=>h) (by kernel_rfl) b6 ?_
   refine h_val 6 2 rfl (.pointer (some (Xq b (k*3)))) rfl (by kernel_rfl) (by kernel_rfl) (by kernel_rfl) (fun _ _ _ _ _ h=>h) (by kernel_rfl) (fun V _=>Wd (k:=k) rfl rfl rfl rfl (by omega) (Sts.cell hb Rp (0,0,0) (k:=k) (i:=0) (by omega) rfl).1 Tryz.underlying47 (by kernel_rfl) V) b6 ?_
   refine h_val 7 1 rfl (.agg #[V0 ((lb.getD k (0,0,0)).1),V0 ((lb.getD k (0,0,0)).2.1),V0 ((lb.getD k (0,0,0)).2.2)]) rfl (by kernel_rfl) (by kernel_rfl) (by kernel_rfl) (fun _ _ _ _ _ h=>h) (by kernel_rfl) (fun V hV=>Ra (k:=k) Rp (0,0,0) _ rfl rfl ((hb.below b7).below hV) (by omega) (by decide) Tryz.underlying100 rfl (by kernel_rfl)) b6 ?_
   refine h_val 8 0 rfl (.bool (decide ((la.getD k (0,0,0))≠(lb.getD k (0,0,0))))) rfl (by kernel_rfl) (by kernel_rfl) (by kernel_rfl) (fun _ _ _ _ _ h=>h) (by kernel_rfl) (fun V _=>run_dneq (la.getD k (0,0,0)) (lb.getD k (0,0,0)) rfl rfl rfl V) b6 ?_
   refine Az _ (by kernel_rfl) ?_
   refine wp_cond_split (t:=decide ((la.getD k (0,0,0))≠(lb.getD k (0,0,0)))) rfl (fun b9=>?_) (fun b9=>?_)
   ·have b9:=of_decide_eq_true b9
    refine wp_seq ?_
    refine wp_region_lit ?_
    refine Yu 1 ⟨#[.slice a la.length ca,.slice b lb.length cb,undef,undef,.bool false,V0 (k:Int),.slice a la.length ca,V0 (la.length:Int),.slice b lb.length cb,V0 (lb.length:Int),.bool ((la.length:Int) != (lb.length:Int)),V0 (k:Int),.slice a la.length ca,V0 (la.length:Int),.bool (decide ((k:Int)<(la.length:Int))),a1,a0,.slice a la.length ca,V0 (k:Int),.pointer (some (Xq a (k*3))),.agg #[V0 ((la.getD k (0,0,0)).1),V0 ((la.getD k (0,0,0)).2.1),V0 ((la.getD k (0,0,0)).2.2)],.slice b lb.length cb,V0 (k:Int),.pointer (some (Xq b (k*3))),.agg #[V0 ((lb.getD k (0,0,0)).1),V0 ((lb.getD k (0,0,0)).2.1),V0 ((lb.getD k (0,0,0)).2.2)],.bool (decide ((la.getD k (0,0,0))≠(lb.getD k (0,0,0))))],[]⟩ (by kernel_rfl) ?_
    refine wpList_nil ?_
    refine wp_ret ?_
    show bodyPost _ _ _ .ret _ _
    exact It (.bool false) rfl (by kernel_rfl) ⟨by rw[show decide (la=lb)=false by simp;rintro rfl;simp at *],hB⟩
   ·have b9:=of_decide_eq_false b9
    refine wp_skip ?_
    refine wp_region_lit ?_
    refine Yu 1 ⟨#[.slice a la.length ca,.slice b lb.length cb,undef,undef,a7,V0 (k:Int),.slice a la.length ca,V0 (la.length:Int),.slice b lb.length cb,V0 (lb.length:Int),.bool ((la.length:Int) != (lb.length:Int)),V0 (k:Int),.slice a la.length ca,V0 (la.length:Int),.bool (decide ((k:Int)<(la.length:Int))),V0 (k:Int),a0,.slice a la.length ca,V0 (k:Int),.pointer (some (Xq a (k*3))),.agg #[V0 ((la.getD k (0,0,0)).1),V0 ((la.getD k (0,0,0)).2.1),V0 ((la.getD k (0,0,0)).2.2)],.slice b lb.length cb,V0 (k:Int),.pointer (some (Xq b (k*3))),.agg #[V0 ((lb.getD k (0,0,0)).1),V0 ((lb.getD k (0,0,0)).2.1),V0 ((lb.getD k (0,0,0)).2.2)],.bool (decide ((la.getD k (0,0,0))≠(lb.getD k (0,0,0))))],[]⟩ (by kernel_rfl) ?_
    refine Lk (by kernel_rfl) (Kp (run_wrap .i64 ((k:Int)+1) ((k:Int)+1) (by kernel_rfl) (by first|exact IntWalk.i64_in _ (by omega)|(simp only[IntKind.wrap];omega)) _) ?_)
    refine Yu 1 ⟨#[.slice a la.length ca,.slice b lb.length cb,undef,undef,a7,V0 ((k:Int)+1),.slice a la.length ca,V0 (la.length:Int),.slice b lb.length cb,V0 (lb.length:Int),.bool ((la.length:Int) != (lb.length:Int)),V0 (k:Int),.slice a la.length ca,V0 (la.length:Int),.bool (decide ((k:Int)<(la.length:Int))),V0 (k:Int),V0 ((k:Int)+1),.slice a la.length ca,V0 (k:Int),.pointer (some (Xq a (k*3))),.agg #[V0 ((la.getD k (0,0,0)).1),V0 ((la.getD k (0,0,0)).2.1),V0 ((la.getD k (0,0,0)).2.2)],.slice b lb.length cb,V0 (k:Int),.pointer (some (Xq b (k*3))),.agg #[V0 ((lb.getD k (0,0,0)).1),V0 ((lb.getD k (0,0,0)).2.1),V0 ((lb.getD k (0,0,0)).2.2)],.bool (decide ((la.getD k (0,0,0))≠(lb.getD k (0,0,0))))],[]⟩ (by kernel_rfl) ?_
    refine wpList_nil ?_
    refine g_nfr ⟨#[.slice a la.length ca,.slice b lb.length cb,undef,undef,a7,V0 ((k:Int)+1),.slice a la.length ca,V0 (la.length:Int),.slice b lb.length cb,V0 (lb.length:Int),.bool ((la.length:Int) != (lb.length:Int)),V0 (k:Int),.slice a la.length ca,V0 (la.length:Int),.bool (decide ((k:Int)<(la.length:Int))),V0 (k:Int),V0 ((k:Int)+1),.slice a la.length ca,V0 (k:Int),.pointer (some (Xq a (k*3))),.agg #[V0 ((la.getD k (0,0,0)).1),V0 ((la.getD k (0,0,0)).2.1),V0 ((la.getD k (0,0,0)).2.2)],.slice b lb.length cb,V0 (k:Int),.pointer (some (Xq b (k*3))),.agg #[V0 ((lb.getD k (0,0,0)).1),V0 ((lb.getD k (0,0,0)).2.1),V0 ((lb.getD k (0,0,0)).2.2)],.bool (decide ((la.getD k (0,0,0))≠(lb.getD k (0,0,0))))],[]⟩ (by kernel_rfl) ?_
    refine⟨⟨k+1,_,_,_,_,_,_,_,_,_,_,_,_,_,_,_,_,rfl,hB,by omega,hl,Zfi (0,0,0) ht (by omega) (by omega) (Decidable.not_not.1 (by assumption))⟩,?_⟩
    show la.length-(((k:Int)+1)).toNat<la.length-((k:Int)).toNat
    omega
  ·have b8:=of_decide_eq_false b8
   refine wp_exit ?_
   refine Ii ?_
   refine Ii ?_
   refine Of ?_
   refine wp_seq ?_
   refine wp_region_lit ?_
   refine Yu 1 ⟨#[.slice a la.length ca,.slice b lb.length cb,undef,undef,.bool true,V0 (k:Int),.slice a la.length ca,V0 (la.length:Int),.slice b lb.length cb,V0 (lb.length:Int),.bool ((la.length:Int) != (lb.length:Int)),V0 (k:Int),.slice a la.length ca,V0 (la.length:Int),.bool (decide ((k:Int)<(la.length:Int))),a1,a0,b1,b0,a9,a8,a5,a6,a2,a3,a4],[]⟩ (by kernel_rfl) ?_
   refine wpList_nil ?_
   refine wp_ret ?_
   show bodyPost _ _ _ .ret _ _
   exact It (.bool true) rfl (by kernel_rfl) ⟨by rw[show decide (la=lb)=true by simp;rwa [List.take_of_length_le (by omega),List.take_of_length_le (by omega)] at ht],hB⟩
def Jz:List Value:=[V0 0,V0 0,V0 0,V0 0,V0 0,V0 0,V0 0,V0 0,V0 0,V0 0,V0 0]
theorem Ek(b:Nat)(F:Value)(w:World)(h:Blk w b [S0] 95) :
 C0 102 #[P0 b,V0 0,V0 1,F] w (Ko (fun w' r=>∃ y,r=.tuple #[.agg Jz.toArray,y]∧Kl w' [some 0] (some 3) y) w):=by
 refine calls_of_wp Tryz.func102 rfl ?_
 refine g_fr ⟨#[P0 b,V0 0,V0 1,F,undef,undef,undef,undef,undef,undef,undef,undef,undef,undef,undef,undef,undef,undef,undef,undef,undef,undef,undef,undef,undef,undef,undef,undef,undef,undef,undef,undef,undef,undef,undef,undef,undef,undef,undef,undef,undef,undef,undef,undef,undef,undef,undef,undef,undef,undef,undef,undef,undef,undef,undef,undef],[]⟩ (by kernel_rfl) ?_
 refine wp_seq ?_
 refine wp_region_lit ?_
 refine Lk (by kernel_rfl) (Gb [V0 0,V0 0,V0 0,V0 0,V0 0,V0 0,V0 0,V0 0,V0 0,V0 0,V0 0] rfl (by kernel_rfl) ?_)
 intro b1 W1 n1
 have g1:=n1.ge (Below.refl _ _)
 have hB:=n1.below
 have k1:=n1.blk
 refine Yu 1 ⟨#[P0 b,V0 0,V0 1,F,undef,undef,undef,undef,P0 b1,.nilIface,undef,undef,undef,undef,undef,undef,undef,undef,undef,undef,undef,undef,undef,undef,undef,undef,undef,undef,undef,undef,undef,undef,undef,undef,undef,undef,undef,undef,undef,undef,undef,undef,undef,undef,undef,undef,undef,undef,undef,undef,undef,undef,undef,undef,undef,undef],[]⟩ (by kernel_rfl) ?_
 refine wpList_nil ?_
 refine wp_seq ?_
 refine wp_region_lit ?_
 refine Lk (by kernel_rfl) (Gb [V0 0,V0 0,V0 0,V0 0,V0 0,V0 0,V0 0,V0 0,V0 0,V0 0,V0 0] rfl (by kernel_rfl) ?_)
 intro b2 W2 n2
 have d2_b1:=n2.ne k1
 have g2:=n2.ge hB
 replace hB:=bln hB n2.below
 replace k1:=k1.below n2.below
 have k2:=n2.blk
 refine wpList_nil ?_
 refine wp_seq ?_
 refine wp_region_lit ?_
 refine Yu 2 ⟨#[P0 b,V0 0,V0 1,F,undef,undef,undef,undef,P0 b1,.nilIface,P0 b2,undef,undef,undef,undef,undef,P0 b,V0 0,undef,undef,undef,undef,undef,undef,undef,undef,undef,undef,undef,undef,undef,undef,undef,undef,undef,undef,undef,undef,undef,undef,undef,undef,undef,undef,undef,undef,undef,undef,undef,undef,undef,undef,undef,undef,undef,undef],[]⟩ (by kernel_rfl) ?_
 refine Lk (by kernel_rfl) (Ht 26 #[P0 b,V0 0] rfl rfl (fun _ _=>by kernel_rfl) (by kernel_rfl) ((Eu b 0 _ (h.below hB) (by omega)).mono ?_))
 rintro e W3 ⟨rfl,hb3⟩
 refine⟨_,rfl,?_⟩
 replace hB:=bln hB hb3
 replace k1:=k1.below hb3
 replace k2:=k2.below hb3
 refine Yu 5 ⟨#[P0 b,V0 0,V0 1,F,undef,undef,undef,undef,P0 b1,.nilIface,P0 b2,S0,V0 3,undef,undef,.tuple #[S0,V0 3],P0 b,V0 0,.tuple #[S0,V0 3],S0,V0 3,undef,undef,undef,undef,undef,undef,undef,undef,undef,undef,undef,undef,undef,undef,undef,undef,undef,undef,undef,undef,undef,undef,undef,undef,undef,undef,undef,undef,undef,undef,undef,undef,undef,undef,undef],[]⟩ (by kernel_rfl) ?_
 refine wpList_nil ?_
 refine wp_seq ?_
 refine wp_seq ?_
 refine wp_region_lit ?_
 refine Yu 2 ⟨#[P0 b,V0 0,V0 1,F,undef,undef,undef,undef,P0 b1,.nilIface,P0 b2,S0,V0 3,undef,undef,.tuple #[S0,V0 3],P0 b,V0 0,.tuple #[S0,V0 3],S0,V0 3,V0 3,.bool true,undef,undef,undef,undef,undef,undef,undef,undef,undef,undef,undef,undef,undef,undef,undef,undef,undef,undef,undef,undef,undef,undef,undef,undef,undef,undef,undef,undef,undef,undef,undef,undef,undef],[]⟩ (by kernel_rfl) ?_
 refine wpList_nil ?_
 refine wp_cond_true rfl ?_
 refine wp_seq ?_
 replace hB:=bln hB (Za W3)
 replace k1:=k1.below (Za W3)
 replace k2:=k2.below (Za W3)
 refine h_reg (BelowBut (W3.drew) b1) 7 rfl #[false,false,false,false,false,false,false] rfl (by kernel_rfl) ((Below.refl _ _).but _) ?_
 intro hS4
 have kd6_b1:=k1
 have kd6_b2:=k2
 have hBd6:=hB
 refine h_loadv 0 6 rfl [V0 0,V0 0,V0 0,V0 0,V0 0,V0 0,V0 0,V0 0,V0 0,V0 0,V0 0] _ rfl (by kernel_rfl) (by kernel_rfl) (by kernel_rfl) (fun _ _ _ _ _ h=>h) (by kernel_rfl) rfl rfl Tryz.underlying44 rfl (by kernel_rfl) (fun V hV=>(hV.blk kd6_b2 (Ne.symm d2_b1)).range) hS4 ?_
 refine Ap [1,2,3] 3 rfl #[true,true,true,true,false,false,false] ⟨#[P0 b,V0 0,V0 1,F,undef,undef,undef,undef,P0 b1,.nilIface,P0 b2,S0,V0 3,undef,undef,.tuple #[S0,V0 3],P0 b,V0 0,.tuple #[S0,V0 3],S0,V0 3,V0 3,.bool true,.agg #[V0 0,V0 0,V0 0,V0 0,V0 0,V0 0,V0 0,V0 0,V0 0,V0 0,V0 0],V0 0,V0 3,.iface 63 (V0 3),undef,undef,undef,undef,undef,undef,undef,undef,undef,undef,undef,undef,undef,undef,undef,undef,undef,undef,undef,undef,undef,undef,undef,undef,undef,undef,undef,undef,undef],[]⟩ (by kernel_rfl) (fun _ _ _ _ _ h=>h) (by kernel_rfl) hS4 ?_
 refine Ln 4 2 rfl (by kernel_rfl) rfl (by kernel_rfl) (Ht 172 #[V0 0,.iface 63 (V0 3)] rfl rfl (fun _ _=>by kernel_rfl) (by kernel_rfl) ((Yr 0 3 _).mono ?_))
 rintro e W7 ⟨r,rfl,hb7,hr⟩
 refine⟨_,rfl,?_⟩
 replace hB:=bln hB hb7
 replace k1:=k1.below hb7
 replace k2:=k2.below hb7
 have hS8:BelowBut (W3.drew) b1 (W7):=hS4.next hb7
 refine⟨hS8,?_⟩
 refine Ln 5 1 rfl (by kernel_rfl) rfl (by kernel_rfl) (Hb [V0 0,V0 0,V0 0,V0 0,V0 0,V0 0,V0 0,V0 0,V0 0,V0 0,V0 0] rfl rfl rfl (by kernel_rfl) (by decide) k1 (by decide) ?_)
 intro W9 u9 k9
 change Blk _ _ [V0 0,V0 0,V0 0,V0 0,V0 0,V0 0,V0 0,V0 0,V0 0,V0 0,V0 0] _ at k9
 replace hB:=u9.below hB g1
 replace k2:=u9.blk k2 (Ne.symm d2_b1)
 replace hr:=hr.upd u9 k1 (by decide)
 have hS10:BelowBut (W3.drew) b1 (W9):=hS8.upd u9
 refine⟨hS10,?_⟩
 refine Ap [6] 0 rfl #[true,true,true,true,true,true,true] ⟨#[P0 b,V0 0,V0 1,F,undef,undef,undef,undef,P0 b1,r,P0 b2,S0,V0 3,undef,undef,.tuple #[S0,V0 3],P0 b,V0 0,.tuple #[S0,V0 3],S0,V0 3,V0 3,.bool true,.agg #[V0 0,V0 0,V0 0,V0 0,V0 0,V0 0,V0 0,V0 0,V0 0,V0 0,V0 0],V0 0,V0 3,.iface 63 (V0 3),r,undef,undef,undef,undef,undef,undef,undef,undef,undef,undef,undef,undef,undef,undef,undef,undef,undef,undef,undef,undef,undef,undef,undef,undef,undef,undef,undef,undef],[]⟩ (by kernel_rfl) (fun _ _ _ _ _ h=>h) (by kernel_rfl) hS10 ?_
 refine Az _ (by kernel_rfl) ?_
 refine wp_ret ?_
 show bodyPost _ _ _ .ret _ _
 exact It (.tuple #[.agg #[V0 0,V0 0,V0 0,V0 0,V0 0,V0 0,V0 0,V0 0,V0 0,V0 0,V0 0],r]) rfl (Zhi (d:=_) (cs:=[V0 0,V0 0,V0 0,V0 0,V0 0,V0 0,V0 0,V0 0,V0 0,V0 0,V0 0]) rfl (by kernel_rfl) (by kernel_rfl) k9.range Tryz.underlying44 rfl (by kernel_rfl)) ⟨_,rfl,hB,_,rfl,hr⟩
theorem Ce(b:Nat)(w:World)(h:Blk w b [S0] 95) :
 C0 45 #[P0 b] w (Ko (fun w' r=>∃ y,r=.tuple #[.agg Jz.toArray,y]∧Kl w' [some 0] (some 3) y) w):=by
 refine calls_of_wp Tryz.func45 rfl ?_
 refine g_fr ⟨#[P0 b,undef,undef,undef,undef,undef,undef,undef,undef],[]⟩ (by kernel_rfl) ?_
 refine wp_seq ?_
 refine wp_region_lit ?_
 refine Lk (by kernel_rfl) (Zf1 [P0 b] rfl (by kernel_rfl) ?_)
 intro b1 W1 n1
 have g1:=n1.ge (Below.refl _ _)
 have hB:=n1.below
 have k1:=n1.blk
 refine Lk (by kernel_rfl) (Gb [V0 0,V0 0,V0 0,V0 0,V0 0,V0 0,V0 0,V0 0,V0 0,V0 0,V0 0] rfl (by kernel_rfl) ?_)
 intro b2 W2 n2
 have a0:=n2.ne k1
 have g2:=n2.ge hB
 replace hB:=bln hB n2.below
 replace k1:=k1.below n2.below
 have k2:=n2.blk
 refine Yu 1 ⟨#[P0 b,P0 b1,P0 b2,.nilIface,undef,undef,undef,undef,undef],[]⟩ (by kernel_rfl) ?_
 refine wpList_nil ?_
 refine wp_seq ?_
 refine wp_region_lit ?_
 refine Lk (by kernel_rfl) (Pa _ (P0 b) rfl rfl (by kernel_rfl) (k1.cell (i:=0) rfl) ?_)
 refine Yu 1 ⟨#[P0 b,P0 b1,P0 b2,.nilIface,P0 b,.func (.func 103) #[] #[P0 b1],undef,undef,undef],[]⟩ (by kernel_rfl) ?_
 refine Lk (by kernel_rfl) (Ht 102 #[P0 b,V0 0,V0 1,.func (.func 103) #[] #[P0 b1]] rfl rfl (fun _ _=>by kernel_rfl) (by kernel_rfl) ((Ek b (.func (.func 103) #[] #[P0 b1]) _ (h.below hB)).mono ?_))
 rintro e W3 ⟨_,rfl,a1,y,rfl,hr⟩
 refine⟨_,rfl,?_⟩
 replace hB:=bln hB a1
 replace k1:=k1.below a1
 replace k2:=k2.below a1
 refine Yu 2 ⟨#[P0 b,P0 b1,P0 b2,.nilIface,P0 b,.func (.func 103) #[] #[P0 b1],.tuple #[.agg Jz.toArray,y],.agg Jz.toArray,y],[]⟩ (by kernel_rfl) ?_
 refine Lk (by kernel_rfl) (Hb Jz rfl rfl rfl (by kernel_rfl) (by decide) k2 (by decide) ?_)
 intro W4 u4 k4
 change Blk _ _ Jz _ at k4
 replace hB:=u4.below hB g2
 replace k1:=u4.blk k1 (Ne.symm (Ne.symm a0))
 replace hr:=hr.upd u4 k2 (by decide)
 refine Yu 1 ⟨#[P0 b,P0 b1,P0 b2,y,P0 b,.func (.func 103) #[] #[P0 b1],.tuple #[.agg Jz.toArray,y],.agg Jz.toArray,y],[]⟩ (by kernel_rfl) ?_
 refine wpList_nil ?_
 refine wp_ret ?_
 show bodyPost _ _ _ .ret _ _
 exact It (.tuple #[.agg Jz.toArray,y]) rfl (Zhi (d:=_) (cs:=Jz) rfl (by kernel_rfl) (by kernel_rfl) k4.range Tryz.underlying44 rfl (by kernel_rfl)) ⟨_,rfl,hB,_,rfl,hr⟩
theorem Da(b:Nat)(w:World)(hg:Sm w)(h:Blk w b [S0] 95) :
 C0 17 #[P0 b] w (Ko (fun w' r=>∃ g,r=.tuple #[.agg Jz.toArray,.slice (S1 g) 1 1]∧Blk w' g [V0 1,V0 0,V0 3] 100) w):=by
 refine calls_of_wp Tryz.func17 rfl ?_
 refine g_fr ⟨#[P0 b,undef,undef,undef,undef,undef,undef,undef,undef,undef,undef,undef,undef,undef,undef,undef,undef,undef],[]⟩ (by kernel_rfl) ?_
 refine wp_seq ?_
 refine wp_region_lit ?_
 refine Lk (by kernel_rfl) (Gb [V0 0,V0 0,V0 0,V0 0,V0 0,V0 0,V0 0,V0 0,V0 0,V0 0,V0 0] rfl (by kernel_rfl) ?_)
 intro b1 W1 n1
 have g1:=n1.ge (Below.refl _ _)
 have hB:=n1.below
 have k1:=n1.blk
 refine Yu 1 ⟨#[P0 b,undef,P0 b1,S0,undef,undef,undef,undef,undef,undef,undef,undef,undef,undef,undef,undef,undef,undef],[]⟩ (by kernel_rfl) ?_
 refine wpList_nil ?_
 refine wp_seq ?_
 refine wp_region_lit ?_
 refine Yu 1 ⟨#[P0 b,undef,P0 b1,S0,undef,undef,undef,P0 b,undef,undef,undef,undef,undef,undef,undef,undef,undef,undef],[]⟩ (by kernel_rfl) ?_
 refine Lk (by kernel_rfl) (Ht 45 #[P0 b] rfl rfl (fun _ _=>by kernel_rfl) (by kernel_rfl) ((Ce b _ (h.below hB)).mono ?_))
 rintro e W2 ⟨_,rfl,a3,y,rfl,hr⟩
 refine⟨_,rfl,?_⟩
 replace hB:=bln hB a3
 replace k1:=k1.below a3
 obtain⟨ty,x,rfl⟩:=(hr.nil_or.resolve_left (fun q=>by cases q.1)).2
 refine Yu 3 ⟨#[P0 b,undef,P0 b1,S0,undef,undef,.tuple #[.agg Jz.toArray,.iface ty (x)],P0 b,.tuple #[.agg Jz.toArray,.iface ty (x)],.agg Jz.toArray,.iface ty (x),undef,undef,undef,undef,undef,undef,undef],[]⟩ (by kernel_rfl) ?_
 refine Lk (by kernel_rfl) (Gb [V0 0,V0 0,V0 0,V0 0,V0 0,V0 0,V0 0,V0 0,V0 0,V0 0,V0 0] rfl (by kernel_rfl) ?_)
 intro b3 W3 n3
 have a0:=n3.ne k1
 have g3:=n3.ge hB
 replace hB:=bln hB n3.below
 replace k1:=k1.below n3.below
 replace hr:=hr.below n3.below
 have k3:=n3.blk
 refine Lk (by kernel_rfl) (Hb Jz rfl rfl rfl (by kernel_rfl) (by decide) k3 (by decide) ?_)
 intro W4 u4 k4
 change Blk _ _ Jz _ at k4
 replace hB:=u4.below hB g3
 replace k1:=u4.blk k1 (Ne.symm (Ne.symm a0))
 replace hr:=hr.upd u4 k3 (by decide)
 refine Yu 1 ⟨#[P0 b,undef,P0 b1,S0,P0 b3,.iface ty (x),.tuple #[.agg Jz.toArray,.iface ty (x)],P0 b,.tuple #[.agg Jz.toArray,.iface ty (x)],.agg Jz.toArray,.iface ty (x),undef,undef,undef,undef,undef,undef,undef],[]⟩ (by kernel_rfl) ?_
 refine wpList_nil ?_
 refine wp_seq ?_
 refine wp_seq ?_
 refine wp_region_lit ?_
 refine Yu 2 ⟨#[P0 b,undef,P0 b1,S0,P0 b3,.iface ty (x),.tuple #[.agg Jz.toArray,.iface ty (x)],P0 b,.tuple #[.agg Jz.toArray,.iface ty (x)],.agg Jz.toArray,.iface ty (x),.iface ty (x),.bool true,undef,undef,undef,undef,undef],[]⟩ (by kernel_rfl) ?_
 refine wpList_nil ?_
 refine wp_cond_true rfl ?_
 refine wp_seq ?_
 refine wp_region_lit ?_
 refine Yu 2 ⟨#[P0 b,undef,P0 b1,S0,P0 b3,.iface ty (x),.tuple #[.agg Jz.toArray,.iface ty (x)],P0 b,.tuple #[.agg Jz.toArray,.iface ty (x)],.agg Jz.toArray,.iface ty (x),.iface ty (x),.bool true,.agg #[V0 0,V0 0,V0 0,V0 0,V0 0,V0 0,V0 0,V0 0,V0 0,V0 0,V0 0],.iface ty (x),undef,undef,undef],[]⟩ (by kernel_rfl) ?_
 refine Lk (by kernel_rfl) (Ht 46 #[V0 1,.iface ty (x)] rfl rfl (fun _ _=>by kernel_rfl) (by kernel_rfl) ((Zbk 1 (some 3) [some 0] (.iface ty (x)) _ (by decide) (hg.below hB) hr).mono ?_))
 rintro e W5 ⟨rfl,a2⟩
 refine⟨_,rfl,?_⟩
 replace hB:=bln hB a2
 replace k1:=k1.below a2
 replace k4:=k4.below a2
 replace hr:=hr.below a2
 refine Lk (by kernel_rfl) (Vp 100 [V0 1,V0 0,V0 3] rfl (by kernel_rfl) ?_)
 intro b6 W6 n6
 have a1:=n6.ne k1
 have a4:=n6.ne k4
 have g6:=n6.ge hB
 replace hB:=bln hB n6.below
 replace k1:=k1.below n6.below
 replace k4:=k4.below n6.below
 replace hr:=hr.below n6.below
 have k6:=n6.blk
 refine Lk (by kernel_rfl) (Hb [V0 0,V0 0,V0 0,V0 0,V0 0,V0 0,V0 0,V0 0,V0 0,V0 0,V0 0] rfl rfl rfl (by kernel_rfl) (by decide) k1 (by decide) ?_)
 intro W7 u7 k7
 change Blk _ _ [V0 0,V0 0,V0 0,V0 0,V0 0,V0 0,V0 0,V0 0,V0 0,V0 0,V0 0] _ at k7
 replace hB:=u7.below hB g1
 replace k4:=u7.blk k4 (Ne.symm a0)
 replace k6:=u7.blk k6 (Ne.symm a1)
 replace hr:=hr.upd u7 k1 (by decide)
 refine Yu 1 ⟨#[P0 b,undef,P0 b1,.slice (S1 b6) 1 1,P0 b3,.iface ty (x),.tuple #[.agg Jz.toArray,.iface ty (x)],P0 b,.tuple #[.agg Jz.toArray,.iface ty (x)],.agg Jz.toArray,.iface ty (x),.iface ty (x),.bool true,.agg #[V0 0,V0 0,V0 0,V0 0,V0 0,V0 0,V0 0,V0 0,V0 0,V0 0,V0 0],.iface ty (x),.agg #[V0 1,V0 0,V0 3],.slice (S1 b6) 1 1,undef],[]⟩ (by kernel_rfl) ?_
 refine wpList_nil ?_
 refine wp_ret ?_
 show bodyPost _ _ _ .ret _ _
 exact It (.tuple #[.agg #[V0 0,V0 0,V0 0,V0 0,V0 0,V0 0,V0 0,V0 0,V0 0,V0 0,V0 0],.slice (S1 b6) 1 1]) rfl (Zhi (d:=_) (cs:=[V0 0,V0 0,V0 0,V0 0,V0 0,V0 0,V0 0,V0 0,V0 0,V0 0,V0 0]) rfl (by kernel_rfl) (by kernel_rfl) k7.range Tryz.underlying44 rfl (by kernel_rfl)) ⟨_,rfl,hB,_,rfl,k6⟩
theorem Za4(w:World)(hg:Sm w) :
 C0 14 #[] w (Ret (.bool true) w):=by
 refine calls_of_wp Tryz.func14 rfl ?_
 refine g_fr ⟨#[undef,undef,undef,undef,undef,undef,undef,undef,undef,undef,undef,undef,undef,undef,undef,undef,undef,undef],[]⟩ (by kernel_rfl) ?_
 refine wp_seq ?_
 refine wp_region_lit ?_
 refine Yu 1 ⟨#[.bool false,undef,undef,undef,undef,undef,undef,undef,undef,undef,undef,undef,undef,undef,undef,undef,undef,undef],[]⟩ (by kernel_rfl) ?_
 refine wpList_nil ?_
 refine wp_seq ?_
 refine wp_region_lit ?_
 refine Lk (by kernel_rfl) (Ht 15 #[S0] rfl rfl (fun _ _=>by kernel_rfl) (by kernel_rfl) ((Ib _).mono ?_))
 rintro e W1 ⟨rfl,rfl⟩
 refine⟨_,rfl,?_⟩
 have kI:=Blk.new w [S0] 95
 have a2:=blx w (.cells #[S0] 95)
 have hB:=a2
 refine Lk (by kernel_rfl) (Ht 17 #[.pointer (some ⟨w.heap.size,0,none⟩)] rfl rfl (fun _ _=>by kernel_rfl) (by kernel_rfl) ((Da w.heap.size _ (hg.below hB) kI).mono ?_))
 rintro e W3 ⟨_,rfl,a1,g,rfl,kD⟩
 refine⟨_,rfl,?_⟩
 replace hB:=bln hB a1
 refine Yu 3 ⟨#[.bool false,undef,undef,.tuple #[.agg Jz.toArray,.slice (S1 g) 1 1],.pointer (some ⟨w.heap.size,0,none⟩),.tuple #[.agg Jz.toArray,.slice (S1 g) 1 1],.agg Jz.toArray,.slice (S1 g) 1 1,undef,undef,undef,undef,undef,undef,undef,undef,undef,undef],[]⟩ (by kernel_rfl) ?_
 refine Lk (by kernel_rfl) (Gb [V0 0,V0 0,V0 0,V0 0,V0 0,V0 0,V0 0,V0 0,V0 0,V0 0,V0 0] rfl (by kernel_rfl) ?_)
 intro b4 W4 n4
 have a0:=n4.ne kD
 have g4:=n4.ge hB
 replace hB:=bln hB n4.below
 replace kD:=kD.below n4.below
 have k4:=n4.blk
 refine Lk (by kernel_rfl) (Hb Jz rfl rfl rfl (by kernel_rfl) (by decide) k4 (by decide) ?_)
 intro W5 u5 k5
 change Blk _ _ Jz _ at k5
 replace hB:=u5.below hB g4
 replace kD:=u5.blk kD (Ne.symm (Ne.symm a0))
 refine Yu 1 ⟨#[.bool false,P0 b4,.slice (S1 g) 1 1,.tuple #[.agg Jz.toArray,.slice (S1 g) 1 1],.pointer (some ⟨w.heap.size,0,none⟩),.tuple #[.agg Jz.toArray,.slice (S1 g) 1 1],.agg Jz.toArray,.slice (S1 g) 1 1,undef,undef,undef,undef,undef,undef,undef,undef,undef,undef],[]⟩ (by kernel_rfl) ?_
 refine wpList_nil ?_
 refine wp_seq ?_
 refine wp_region_lit ?_
 refine Yu 6 ⟨#[.bool false,P0 b4,.slice (S1 g) 1 1,.tuple #[.agg Jz.toArray,.slice (S1 g) 1 1],.pointer (some ⟨w.heap.size,0,none⟩),.tuple #[.agg Jz.toArray,.slice (S1 g) 1 1],.agg Jz.toArray,.slice (S1 g) 1 1,.slice (S1 g) 1 1,V0 1,.bool true,.bool true,.slice (S1 g) 1 1,P0 g,undef,undef,undef,undef],[]⟩ (by kernel_rfl) ?_
 refine Lk (by kernel_rfl) (op_loadv [V0 1,V0 0,V0 3] _ rfl rfl Tryz.underlying100 rfl (by kernel_rfl) kD.range ?_)
 refine Yu 4 ⟨#[.bool true,P0 b4,.slice (S1 g) 1 1,.tuple #[.agg Jz.toArray,.slice (S1 g) 1 1],.pointer (some ⟨w.heap.size,0,none⟩),.tuple #[.agg Jz.toArray,.slice (S1 g) 1 1],.agg Jz.toArray,.slice (S1 g) 1 1,.slice (S1 g) 1 1,V0 1,.bool true,.bool true,.slice (S1 g) 1 1,P0 g,.agg #[V0 1,V0 0,V0 3],.agg #[V0 1,V0 0,V0 3],.bool true,.bool true],[]⟩ (by kernel_rfl) ?_
 refine wpList_nil ?_
 refine wp_ret ?_
 show bodyPost _ _ _ .ret _ _
 exact It (.bool true) rfl (by kernel_rfl) ⟨rfl,hB⟩
def dl (kind:Int)(l:List Int):List (Int×Int×Int):=l.map fun i=>(kind,i,13)
theorem By(a b:O0)(ca cb:Nat)(l:List (Int×Int×Int))(w:World)(ha:Sts dmc w (.slice a l.length ca) l)(hb:Sts dmc w (.slice b l.length cb) l) :
 C0 21 #[.slice a l.length ca,.slice b l.length cb] w (Ret (.bool true) w) :=
 (Zc7 a b ca cb l l w ha hb).mono fun e w' ⟨h1,h2⟩=>⟨by rw[h1];simp,h2⟩
end Go.Proofs.YtegcamkgeacjfaaGreatDoor
namespace Go.Proofs.YtegcamkgeacjfaaGreatDoor
set_option maxHeartbeats 8000000
set_option maxRecDepth 100000
open Go.RowKit Go.Extern.Stop Go.Stop Go.Extern
set_option linter.unusedVariables false
attribute [local irreducible] wpList wpAnyH Code.wp Oper.wp Go
structure Sup where
 tx:Int
 time:Int
 unit:Int
 data:Int
 blocks:Int
 top:Int
 details:Int
 dslots:Int
 dover:Int
 mindex:Int
 mover:Int
def supC(s:Sup):List Value:=[V0 s.tx,V0 s.time,V0 s.unit,V0 s.data,V0 s.blocks,V0 s.top,V0 s.details,V0 s.dslots,V0 s.dover,V0 s.mindex,V0 s.mover]
def Iz(s:Sup):List Int:=[s.tx,s.time,s.unit,s.data,s.blocks,s.top,s.details,s.dslots,s.dover,s.mindex,s.mover]
def Yb(s:Sup):Bool:=(((((((((((true&&decide ((0:Int)≤s.tx∧s.tx≤2147483647))&&decide ((0:Int)≤s.time∧s.time≤16777215))&&decide ((1:Int)≤s.unit∧s.unit≤65536))&&decide ((0:Int)≤s.data∧s.data≤65536))&&decide ((2:Int)≤s.blocks∧s.blocks≤14400))&&decide ((1:Int)≤s.top∧s.top≤(s.blocks-1)))&&decide ((1:Int)≤s.details∧s.details≤(s.blocks-1)))&&decide ((1:Int)≤s.dslots∧s.dslots≤(s.blocks-1)))&&decide ((1:Int)≤s.dover∧s.dover≤(s.blocks-1)))&&decide ((1:Int)≤s.mindex∧s.mindex≤(s.blocks-1)))&&decide ((1:Int)≤s.mover∧s.mover≤(s.blocks-1)))
def Zi(l:Bl):Sup:=⟨(Zl l 12 4:Int),(Zl l 16 4:Int),(Zl l 20 4:Int),(Zl l 24 4:Int),(Zl l 28 4:Int),(Zl l 32 4:Int),(Zl l 36 4:Int),(Zl l 40 4:Int),(Zl l 44 4:Int),(Zl l 48 4:Int),(Zl l 52 4:Int)⟩
def Gm:Bl:=[83,67,65,78,84,76,73,78]
def Gd(N:List Int):Bl:=N.flatMap fun n=>leB n 4
theorem Cy(N:List Int):(Gd N).length=N.length*4:=by
 unfold Gd
 induction N with
 | nil=>rfl
 | cons n N ih=>rw[List.flatMap_cons,List.length_append,Ym,ih,List.length_cons];omega
def Om(s:Sup):Bl:=Gm++Gd (1::Iz s)++List.replicate 188 0
theorem Zbz(s:Sup):(Om s).length=244:=by
 unfold Om;rw[List.length_append,List.length_append,Cy,List.length_replicate];rfl
def Sr(l:Bl):Bool:=(l.take 8==Gm)&&decide (Zl l 8 4=1)&&Qv (l.drop 56)&&Yb (Zi l)
def Fo(n:Int):List Value:=[V0 4,V0 n]
theorem Zb2(n:Int):(Fo n).length=2:=rfl
theorem Lo{l:Bl}{k:Nat}(h:k+4≤l.length):l.drop k=leB (Zl l k 4:Int) 4++l.drop (k+4):=by
 rw[Rr h,←List.drop_drop,List.take_append_drop]
theorem drop8{l:Bl}(hl:l.length=244):l.drop 8=Gd ((Zl l 8 4:Int)::Iz (Zi l))++l.drop 56:=by
 rw[Lo (k:=8) (by omega),Lo (k:=12) (by omega),Lo (k:=16) (by omega),Lo (k:=20) (by omega),Lo (k:=24) (by omega),Lo (k:=28) (by omega),Lo (k:=32) (by omega),Lo (k:=36) (by omega),Lo (k:=40) (by omega),Lo (k:=44) (by omega),Lo (k:=48) (by omega),Lo (k:=52) (by omega)]
 simp[Gd,Iz,Zi]
theorem zeroB_iff(l:Bl):Qv l=true↔l=List.replicate l.length 0:=by
 unfold Qv
 rw[List.all_eq_true]
 constructor
 ·intro h;exact List.eq_replicate_iff.2 ⟨rfl,fun x hx=>by simpa using h x hx⟩
 ·intro h x hx;rw[h] at hx;rw[(List.mem_replicate.1 hx).2];rfl
theorem supB_eq{l:Bl}(hl:l.length=244):(Om (Zi l)==l)=((l.take 8==Gm)&&decide (Zl l 8 4=1)&&Qv (l.drop 56)):=by
 have e1:l=l.take 8++(Gd ((Zl l 8 4:Int)::Iz (Zi l))++l.drop 56):=by rw[←drop8 hl,List.take_append_drop]
 have h8:(l.take 8).length=Gm.length:=by simp[Gm];omega
 have hn:∀ x:Int,(Gd (x::Iz (Zi l))).length=48:=fun x=>by rw[Cy];rfl
 have hr:=Yl l 8 4 (by decide)
 have a0:(l.drop 56).length=188:=by simp;omega
 rw[Bool.eq_iff_iff,beq_iff_eq,Bool.and_eq_true,Bool.and_eq_true,beq_iff_eq,decide_eq_true_iff,zeroB_iff,a0]
 constructor
 ·intro h
  have e2:=h.trans e1
  rw[Om,List.append_assoc] at e2
  obtain⟨a1,a2⟩:=List.append_inj e2 h8.symm
  obtain⟨a3,a4⟩:=List.append_inj a2 (by rw[hn,hn])
  have a5:leB (1:Int) 4=leB (Zl l 8 4:Int) 4:=by
   unfold Gd at a3
   rw[List.flatMap_cons,List.flatMap_cons] at a3
   exact(List.append_inj a3 (by rw[Ym,Ym])).1
  have a6:=leB_inj (m:=1) (n:=Zl l 8 4) (w:=4) (by decide) (by omega) a5
  exact⟨⟨a1.symm,a6.symm⟩,a4.symm⟩
 ·rintro⟨⟨a1,a2⟩,a3⟩
  conv=>rhs;rw[e1]
  rw[a1,a2,a3,Om,List.append_assoc];rfl
theorem Qx(B bs bl bat off k:Nat)(cs:List Value)(a:O0)(c:Nat)(l:Bl)(lo hi:Value)(w:World)(hBw:B≤w.heap.size)(hBs:B≤bs)(hBa:B≤bat)(ks:Blk w bs cs 44)(ho:off<cs.length)(kl:Blk w bl [.slice a 244 c] 40)(ka:Blk w bat [V0 (k:Int)] 3)(hl:l.length=244)(h:Bys w (.slice a 244 c) l)(hk:k+4≤244) :
 C0 193 #[.pointer (some ⟨bs,off,none⟩),lo,hi,P0 bl,P0 bat] w ((fun e w'=>∃ u,e=.returned u∧Below B w w'∧Ze [44,3] w w'∧Blk w' bs (cs.set off (V0 (Zl l k 4:Int))) 44∧Blk w' bat [V0 (↑(k+4):Int)] 3)):=by
 refine zin 18 Tryz.func193 ?_
 refine xb 3 0 kl ?_
 refine xb 0 0 ka ?_
 refine xr 0 (args:=#[.slice a 244 c,V0 (k:Int),V0 4]) (Get_okN a 244 c k 4 (k:Int) 4 l _ hl rfl rfl (by decide) hk (by decide) h) fun W1 a2=>?_
 have a1:=ks.below a2
 refine xsg 4 a1 off (V0 (↑(Zl l k 4):Int)) (ho) fun W2 u2 k2=>?_
 replace k2:Blk W2 bs (cs.set off (V0 (Zl l k 4:Int))) 44:=by rw[←(Eq.refl (cs.set off (V0 (Zl l k 4:Int))))];exact k2
 have a0:=u2.blkT (ka.below a2) a1 (by decide)
 refine xb 3 0 a0 ?_
 refine xwm 0 ((k:Int)+4) (↑(k+4):Int) ?_
 refine xs 0 a0 [V0 (↑(k+4):Int)] fun W3 u3 k3=>?_
 have hB:=u3.below (u2.below (blB (Below.refl B w) hBw a2) hBs) hBa
 have hO:=((show Ze [44,3] w _ from(Ze.of_below a2)).trans (Ze.of_upd u2 a1 (by decide))).trans (Ze.of_upd u3 a0 (by decide))
 have a3:=u3.blkT k2 a0 (by decide)
 exact xe 1 (.tuple #[]) ⟨_,rfl,hB,hO,a3,k3⟩
theorem Qb(B bs bo off:Nat)(cs:List Value)(n lo hi:Int)(b:Bool)(w:World)(hBw:B≤w.heap.size)(hBo:B≤bo)(ks:Blk w bs cs 44)(hn:cs[off]? = some (V0 n))(ko:Blk w bo [.bool b] 4) :
 C0 237 #[.pointer (some ⟨bs,off,none⟩),V0 lo,V0 hi,P0 bo] w ((fun e w'=>∃ u,e=.returned u∧Below B w w'∧Ze [4] w w'∧Blk w' bo [.bool (b&&decide ((lo:Int)≤n∧n≤hi))] 4)):=by
 refine zin 22 Tryz.func237 ?_
 refine xb 1 0 ko ?_
 refine xg 1 [7,8] b (fun a1=>?_) (fun a1=>?_)
 ·refine xl 2 (ks.cell (i:=off) hn) ?_
  refine xg 4 [13,14,15] (decide (n≥lo)) (fun a0=>?_) (fun a0=>?_)
  ·have a0:=of_decide_eq_true a0
   refine xl 2 (ks.cell (i:=off) hn) ?_
   refine xs 3 ko [.bool (decide (n≤hi))] fun W3 u3 k3=>?_
   have hB:=u3.below (Below.refl B w) hBo
   have hO:=(show Ze [4] w _ from(Ze.of_upd u3 ko (by decide)))
   exact xe 1 (.tuple #[]) ⟨_,rfl,hB,hO,by rw[show(b&&decide ((lo:Int)≤n∧n≤hi))=decide (n≤hi) from by first|(rw[show decide ((lo:Int)≤n∧n≤hi)=false from decide_eq_false (by omega),Bool.and_false];done)|(simp_all;done)|(simp_all;omega)];exact k3⟩
  have a0:=of_decide_eq_false a0
  refine xs 6 ko [.bool false] fun W4 u4 k4=>?_
  have hB:=u4.below (Below.refl B w) hBo
  have hO:=(show Ze [4] w _ from(Ze.of_upd u4 ko (by decide)))
  exact xe 1 (.tuple #[]) ⟨_,rfl,hB,hO,by rw[show(b&&decide ((lo:Int)≤n∧n≤hi))=false from by first|(rw[show decide ((lo:Int)≤n∧n≤hi)=false from decide_eq_false (by omega),Bool.and_false];done)|(simp_all;done)|(simp_all;omega)];exact k4⟩
 refine xs 13 ko [.bool false] fun W5 u5 k5=>?_
 have hB:=u5.below (Below.refl B w) hBo
 have hO:=(show Ze [4] w _ from(Ze.of_upd u5 ko (by decide)))
 exact xe 1 (.tuple #[]) ⟨_,rfl,hB,hO,by rw[show(b&&decide ((lo:Int)≤n∧n≤hi))=false from by first|(rw[show decide ((lo:Int)≤n∧n≤hi)=false from decide_eq_false (by omega),Bool.and_false];done)|(simp_all;done)|(simp_all;omega)];exact k5⟩
theorem Sx(B bs bl bat:Nat)(a:O0)(c:Nat)(l:Bl)(w:World)(hBw:B≤w.heap.size)(hBs:B≤bs)(hBa:B≤bat)(ks:Blk w bs [V0 0,V0 0,V0 0,V0 0,V0 0,V0 0,V0 0,V0 0,V0 0,V0 0,V0 0] 44)(kl:Blk w bl [.slice a 244 c] 40)(ka:Blk w bat [V0 (↑(12:Nat):Int)] 3)(hl:l.length=244)(hin:∀ W,Below B w W→Bys W (.slice a 244 c) l) :
 C0 167 #[P0 bs,.func (.func 193) #[] #[P0 bl,P0 bat]] w ((fun e w'=>∃ u,e=.returned u∧Below B w w'∧Ze [44,3] w w'∧Blk w' bs (supC (Zi l)) 44)):=by
 have f2:=Yl l 28 4 (by decide)
 refine zin 64 Tryz.func167 ?_
 refine xc 6 (args:=#[P0 bs,V0 0,V0 2147483647,P0 bl,P0 bat]) (Qx B bs bl bat 0 12 _ a c l _ _ _ (Nat.le_trans hBw (Below.refl B _).size) hBs hBa ks (by simp) kl ka hl (hin _ (Below.refl B _)) (by decide)) ?_
 rintro _ W1 ⟨u1,rfl,e7,g7,g4,g2⟩
 change Blk _ _ [V0 (↑(Zl l 12 4):Int),V0 0,V0 0,V0 0,V0 0,V0 0,V0 0,V0 0,V0 0,V0 0,V0 0] _ at g4
 change Blk _ _ [V0 (↑(16:Nat):Int)] _ at g2
 have c2:=kl.only g7 (by decide)
 refine xc 8 (args:=#[.pointer (some ⟨bs,1,none⟩),V0 0,V0 16777215,P0 bl,P0 bat]) (Qx B bs bl bat 1 16 _ a c l _ _ _ (Nat.le_trans hBw e7.size) hBs hBa g4 (by simp) c2 g2 hl (hin _ e7) (by decide)) ?_
 rintro _ W2 ⟨u2,rfl,h0,e8,f9,f7⟩
 change Blk _ _ [V0 (↑(Zl l 12 4):Int),V0 (↑(Zl l 16 4):Int),V0 0,V0 0,V0 0,V0 0,V0 0,V0 0,V0 0,V0 0,V0 0] _ at f9
 change Blk _ _ [V0 (↑(20:Nat):Int)] _ at f7
 have b3:=e7.trans h0
 have c9:=c2.only e8 (by decide)
 refine xc 8 (args:=#[.pointer (some ⟨bs,2,none⟩),V0 1,V0 65536,P0 bl,P0 bat]) (Qx B bs bl bat 2 20 _ a c l _ _ _ (Nat.le_trans hBw b3.size) hBs hBa f9 (by simp) c9 f7 hl (hin _ b3) (by decide)) ?_
 rintro _ W3 ⟨u3,rfl,h3,g5,g3,f6⟩
 change Blk _ _ [V0 (↑(Zl l 12 4):Int),V0 (↑(Zl l 16 4):Int),V0 (↑(Zl l 20 4):Int),V0 0,V0 0,V0 0,V0 0,V0 0,V0 0,V0 0,V0 0] _ at g3
 change Blk _ _ [V0 (↑(24:Nat):Int)] _ at f6
 have a3:=b3.trans h3
 have c5:=c9.only g5 (by decide)
 refine xc 8 (args:=#[.pointer (some ⟨bs,3,none⟩),V0 0,V0 65536,P0 bl,P0 bat]) (Qx B bs bl bat 3 24 _ a c l _ _ _ (Nat.le_trans hBw a3.size) hBs hBa g3 (by simp) c5 f6 hl (hin _ a3) (by decide)) ?_
 rintro _ W4 ⟨u4,rfl,f2,f3,f8,e9⟩
 change Blk _ _ [V0 (↑(Zl l 12 4):Int),V0 (↑(Zl l 16 4):Int),V0 (↑(Zl l 20 4):Int),V0 (↑(Zl l 24 4):Int),V0 0,V0 0,V0 0,V0 0,V0 0,V0 0,V0 0] _ at f8
 change Blk _ _ [V0 (↑(28:Nat):Int)] _ at e9
 have a9:=a3.trans f2
 have b5:=c5.only f3 (by decide)
 refine xc 8 (args:=#[.pointer (some ⟨bs,4,none⟩),V0 2,V0 14400,P0 bl,P0 bat]) (Qx B bs bl bat 4 28 _ a c l _ _ _ (Nat.le_trans hBw a9.size) hBs hBa f8 (by simp) b5 e9 hl (hin _ a9) (by decide)) ?_
 rintro _ W5 ⟨u5,rfl,h1,g0,g1,f0⟩
 change Blk _ _ [V0 (↑(Zl l 12 4):Int),V0 (↑(Zl l 16 4):Int),V0 (↑(Zl l 20 4):Int),V0 (↑(Zl l 24 4):Int),V0 (↑(Zl l 28 4):Int),V0 0,V0 0,V0 0,V0 0,V0 0,V0 0] _ at g1
 change Blk _ _ [V0 (↑(32:Nat):Int)] _ at f0
 refine xd 3 .z ?_
 refine xbs (.o [0,1,2,3,4,5,6,7,8,9,10,11,12,13,14,15,16,17,20] 18) 6 [.pointer (some ⟨bs,5,none⟩),.pointer (some ⟨bs,6,none⟩),.pointer (some ⟨bs,7,none⟩),.pointer (some ⟨bs,8,none⟩),.pointer (some ⟨bs,9,none⟩),.pointer (some ⟨bs,10,none⟩)] 275 fun b6 W6 n6=>?_
 have d2:=blB (a9.trans h1) hBw (Za W5)
 have g6:=n6.ge0 d2
 refine xu (.r [19] 3) 7 ?_
 refine xb 14 0 n6.blk ?_
 have a1:=(g1.below (Za W5)).below n6.below
 refine xb 9 4 a1 ?_
 refine xw 0 ((↑(Zl l 28 4):Int)-1) ?_
 have a7:=blB d2 hBw n6.below
 have c7:=((b5.only g0 (by decide)).below (Za W5)).below n6.below
 have c1:=(f0.below (Za W5)).below n6.below
 refine xc 0 (args:=#[.pointer (some ⟨bs,5,none⟩),V0 1,V0 ((↑(Zl l 28 4):Int)-1),P0 bl,P0 bat]) (Qx B bs bl bat 5 32 _ a c l _ _ _ (Nat.le_trans hBw a7.size) hBs hBa a1 (by simp) c7 c1 hl (hin _ a7) (by decide)) ?_
 rintro _ W7 ⟨u7,rfl,g8,d9,e5,f4⟩
 change Blk _ _ [V0 (↑(Zl l 12 4):Int),V0 (↑(Zl l 16 4):Int),V0 (↑(Zl l 20 4):Int),V0 (↑(Zl l 24 4):Int),V0 (↑(Zl l 28 4):Int),V0 (↑(Zl l 32 4):Int),V0 0,V0 0,V0 0,V0 0,V0 0] _ at e5
 change Blk _ _ [V0 (↑(36:Nat):Int)] _ at f4
 have c0:=n6.blk.only d9 (by decide)
 refine xb 22 1 c0 ?_
 refine xb 9 4 e5 ?_
 refine xw 0 ((↑(Zl l 28 4):Int)-1) ?_
 have b1:=a7.trans g8
 have d3:=c7.only d9 (by decide)
 refine xc 0 (args:=#[.pointer (some ⟨bs,6,none⟩),V0 1,V0 ((↑(Zl l 28 4):Int)-1),P0 bl,P0 bat]) (Qx B bs bl bat 6 36 _ a c l _ _ _ (Nat.le_trans hBw b1.size) hBs hBa e5 (by simp) d3 f4 hl (hin _ b1) (by decide)) ?_
 rintro _ W8 ⟨u8,rfl,h2,e0,e6,f1⟩
 change Blk _ _ [V0 (↑(Zl l 12 4):Int),V0 (↑(Zl l 16 4):Int),V0 (↑(Zl l 20 4):Int),V0 (↑(Zl l 24 4):Int),V0 (↑(Zl l 28 4):Int),V0 (↑(Zl l 32 4):Int),V0 (↑(Zl l 36 4):Int),V0 0,V0 0,V0 0,V0 0] _ at e6
 change Blk _ _ [V0 (↑(40:Nat):Int)] _ at f1
 have d4:=c0.only e0 (by decide)
 refine xb 22 2 d4 ?_
 refine xb 9 4 e6 ?_
 refine xw 0 ((↑(Zl l 28 4):Int)-1) ?_
 have a2:=b1.trans h2
 have d0:=d3.only e0 (by decide)
 refine xc 0 (args:=#[.pointer (some ⟨bs,7,none⟩),V0 1,V0 ((↑(Zl l 28 4):Int)-1),P0 bl,P0 bat]) (Qx B bs bl bat 7 40 _ a c l _ _ _ (Nat.le_trans hBw a2.size) hBs hBa e6 (by simp) d0 f1 hl (hin _ a2) (by decide)) ?_
 rintro _ W9 ⟨u9,rfl,g9,d8,d6,f5⟩
 change Blk _ _ [V0 (↑(Zl l 12 4):Int),V0 (↑(Zl l 16 4):Int),V0 (↑(Zl l 20 4):Int),V0 (↑(Zl l 24 4):Int),V0 (↑(Zl l 28 4):Int),V0 (↑(Zl l 32 4):Int),V0 (↑(Zl l 36 4):Int),V0 (↑(Zl l 40 4):Int),V0 0,V0 0,V0 0] _ at d6
 change Blk _ _ [V0 (↑(44:Nat):Int)] _ at f5
 have c4:=d4.only d8 (by decide)
 refine xb 22 3 c4 ?_
 refine xb 9 4 d6 ?_
 refine xw 0 ((↑(Zl l 28 4):Int)-1) ?_
 have a5:=a2.trans g9
 have d1:=d0.only d8 (by decide)
 refine xc 0 (args:=#[.pointer (some ⟨bs,8,none⟩),V0 1,V0 ((↑(Zl l 28 4):Int)-1),P0 bl,P0 bat]) (Qx B bs bl bat 8 44 _ a c l _ _ _ (Nat.le_trans hBw a5.size) hBs hBa d6 (by simp) d1 f5 hl (hin _ a5) (by decide)) ?_
 rintro _ h9 ⟨h5,rfl,e2,b0,b2,c3⟩
 change Blk _ _ [V0 (↑(Zl l 12 4):Int),V0 (↑(Zl l 16 4):Int),V0 (↑(Zl l 20 4):Int),V0 (↑(Zl l 24 4):Int),V0 (↑(Zl l 28 4):Int),V0 (↑(Zl l 32 4):Int),V0 (↑(Zl l 36 4):Int),V0 (↑(Zl l 40 4):Int),V0 (↑(Zl l 44 4):Int),V0 0,V0 0] _ at b2
 change Blk _ _ [V0 (↑(48:Nat):Int)] _ at c3
 have b7:=c4.only b0 (by decide)
 refine xb 22 4 b7 ?_
 refine xb 9 4 b2 ?_
 refine xw 0 ((↑(Zl l 28 4):Int)-1) ?_
 have a4:=a5.trans e2
 have b9:=d1.only b0 (by decide)
 refine xc 0 (args:=#[.pointer (some ⟨bs,9,none⟩),V0 1,V0 ((↑(Zl l 28 4):Int)-1),P0 bl,P0 bat]) (Qx B bs bl bat 9 48 _ a c l _ _ _ (Nat.le_trans hBw a4.size) hBs hBa b2 (by simp) b9 c3 hl (hin _ a4) (by decide)) ?_
 rintro _ h7 ⟨h8,rfl,e3,a6,a8,c6⟩
 change Blk _ _ [V0 (↑(Zl l 12 4):Int),V0 (↑(Zl l 16 4):Int),V0 (↑(Zl l 20 4):Int),V0 (↑(Zl l 24 4):Int),V0 (↑(Zl l 28 4):Int),V0 (↑(Zl l 32 4):Int),V0 (↑(Zl l 36 4):Int),V0 (↑(Zl l 40 4):Int),V0 (↑(Zl l 44 4):Int),V0 (↑(Zl l 48 4):Int),V0 0] _ at a8
 change Blk _ _ [V0 (↑(52:Nat):Int)] _ at c6
 have d5:=b7.only a6 (by decide)
 refine xb 22 5 d5 ?_
 refine xb 9 4 a8 ?_
 refine xw 0 ((↑(Zl l 28 4):Int)-1) ?_
 have a0:=a4.trans e3
 have c8:=b9.only a6 (by decide)
 refine xc 0 (args:=#[.pointer (some ⟨bs,10,none⟩),V0 1,V0 ((↑(Zl l 28 4):Int)-1),P0 bl,P0 bat]) (Qx B bs bl bat 10 52 _ a c l _ _ _ (Nat.le_trans hBw a0.size) hBs hBa a8 (by simp) c8 c6 hl (hin _ a0) (by decide)) ?_
 rintro _ h4 ⟨h6,rfl,e1,d7,b4,e4⟩
 change Blk _ _ [V0 (↑(Zl l 12 4):Int),V0 (↑(Zl l 16 4):Int),V0 (↑(Zl l 20 4):Int),V0 (↑(Zl l 24 4):Int),V0 (↑(Zl l 28 4):Int),V0 (↑(Zl l 32 4):Int),V0 (↑(Zl l 36 4):Int),V0 (↑(Zl l 40 4):Int),V0 (↑(Zl l 44 4):Int),V0 (↑(Zl l 48 4):Int),V0 (↑(Zl l 52 4):Int)] _ at b4
 change Blk _ _ [V0 (↑(56:Nat):Int)] _ at e4
 have b8:=a0.trans e1
 have hO:=((((((((((((show Ze [44,3] w _ from g7).trans e8).trans g5).trans f3).trans g0).trans (Ze.of_below (Za W5))).trans (Ze.of_below n6.below)).trans d9).trans e0).trans d8).trans b0).trans a6).trans d7
 exact xe 19 (.tuple #[]) ⟨_,rfl,b8,hO,b4⟩
theorem Ed(B bs bo:Nat)(s:Sup)(w:World)(hBw:B≤w.heap.size)(hBo:B≤bo)(hb0:0≤s.blocks)(hb1:s.blocks<9223372036854775808)(ks:Blk w bs [V0 s.tx,V0 s.time,V0 s.unit,V0 s.data,V0 s.blocks,V0 s.top,V0 s.details,V0 s.dslots,V0 s.dover,V0 s.mindex,V0 s.mover] 44)(ko:Blk w bo [.bool true] 4) :
 C0 167 #[P0 bs,.func (.func 237) #[] #[P0 bo]] w ((fun e w'=>∃ u,e=.returned u∧Below B w w'∧Ze [4] w w'∧Blk w' bo [.bool (Yb s)] 4)):=by
 refine zin 64 Tryz.func167 ?_
 refine xc 6 (args:=#[P0 bs,V0 0,V0 2147483647,P0 bo]) (Qb B bs bo 0 _ s.tx 0 2147483647 true _ (Nat.le_trans hBw (Below.refl B _).size) hBo ks rfl ko) ?_
 rintro _ W1 ⟨u1,rfl,hb1,e4,f2⟩
 have b4:=ks.only e4 (by decide)
 refine xc 8 (args:=#[.pointer (some ⟨bs,1,none⟩),V0 0,V0 16777215,P0 bo]) (Qb B bs bo 1 _ s.time 0 16777215 (true&&decide ((0:Int)≤s.tx∧s.tx≤2147483647)) _ (Nat.le_trans hBw hb1.size) hBo b4 rfl f2) ?_
 rintro _ W2 ⟨u2,rfl,e5,e0,f4⟩
 have a9:=hb1.trans e5
 have b2:=b4.only e0 (by decide)
 refine xc 8 (args:=#[.pointer (some ⟨bs,2,none⟩),V0 1,V0 65536,P0 bo]) (Qb B bs bo 2 _ s.unit 1 65536 ((true&&decide ((0:Int)≤s.tx∧s.tx≤2147483647))&&decide ((0:Int)≤s.time∧s.time≤16777215)) _ (Nat.le_trans hBw a9.size) hBo b2 rfl f4) ?_
 rintro _ W3 ⟨u3,rfl,f3,e3,e8⟩
 have c1:=a9.trans f3
 have b5:=b2.only e3 (by decide)
 refine xc 8 (args:=#[.pointer (some ⟨bs,3,none⟩),V0 0,V0 65536,P0 bo]) (Qb B bs bo 3 _ s.data 0 65536 (((true&&decide ((0:Int)≤s.tx∧s.tx≤2147483647))&&decide ((0:Int)≤s.time∧s.time≤16777215))&&decide ((1:Int)≤s.unit∧s.unit≤65536)) _ (Nat.le_trans hBw c1.size) hBo b5 rfl e8) ?_
 rintro _ W4 ⟨u4,rfl,f9,e1,f8⟩
 have b8:=c1.trans f9
 have b1:=b5.only e1 (by decide)
 refine xc 8 (args:=#[.pointer (some ⟨bs,4,none⟩),V0 2,V0 14400,P0 bo]) (Qb B bs bo 4 _ s.blocks 2 14400 ((((true&&decide ((0:Int)≤s.tx∧s.tx≤2147483647))&&decide ((0:Int)≤s.time∧s.time≤16777215))&&decide ((1:Int)≤s.unit∧s.unit≤65536))&&decide ((0:Int)≤s.data∧s.data≤65536)) _ (Nat.le_trans hBw b8.size) hBo b1 rfl f8) ?_
 rintro _ W5 ⟨u5,rfl,e7,e2,e6⟩
 refine xd 3 .z ?_
 refine xbs (.o [0,1,2,3,4,5,6,7,8,9,10,11,12,13,14,15,16,17,20] 18) 6 [.pointer (some ⟨bs,5,none⟩),.pointer (some ⟨bs,6,none⟩),.pointer (some ⟨bs,7,none⟩),.pointer (some ⟨bs,8,none⟩),.pointer (some ⟨bs,9,none⟩),.pointer (some ⟨bs,10,none⟩)] 275 fun b6 W6 n6=>?_
 have b9:=blB (b8.trans e7) hBw (Za W5)
 have g6:=n6.ge0 b9
 refine xu (.r [19] 3) 7 ?_
 refine xb 14 0 n6.blk ?_
 have a2:=((b1.only e2 (by decide)).below (Za W5)).below n6.below
 refine xb 9 4 a2 ?_
 refine xw 0 (s.blocks-1) ?_
 have b3:=blB b9 hBw n6.below
 have c3:=(e6.below (Za W5)).below n6.below
 refine xc 0 (args:=#[.pointer (some ⟨bs,5,none⟩),V0 1,V0 (s.blocks-1),P0 bo]) (Qb B bs bo 5 _ s.top 1 (s.blocks-1) (((((true&&decide ((0:Int)≤s.tx∧s.tx≤2147483647))&&decide ((0:Int)≤s.time∧s.time≤16777215))&&decide ((1:Int)≤s.unit∧s.unit≤65536))&&decide ((0:Int)≤s.data∧s.data≤65536))&&decide ((2:Int)≤s.blocks∧s.blocks≤14400)) _ (Nat.le_trans hBw b3.size) hBo a2 rfl c3) ?_
 rintro _ W7 ⟨u7,rfl,e9,d1,f1⟩
 have c0:=n6.blk.only d1 (by decide)
 refine xb 22 1 c0 ?_
 have a7:=a2.only d1 (by decide)
 refine xb 9 4 a7 ?_
 refine xw 0 (s.blocks-1) ?_
 have c2:=b3.trans e9
 refine xc 0 (args:=#[.pointer (some ⟨bs,6,none⟩),V0 1,V0 (s.blocks-1),P0 bo]) (Qb B bs bo 6 _ s.details 1 (s.blocks-1) ((((((true&&decide ((0:Int)≤s.tx∧s.tx≤2147483647))&&decide ((0:Int)≤s.time∧s.time≤16777215))&&decide ((1:Int)≤s.unit∧s.unit≤65536))&&decide ((0:Int)≤s.data∧s.data≤65536))&&decide ((2:Int)≤s.blocks∧s.blocks≤14400))&&decide ((1:Int)≤s.top∧s.top≤(s.blocks-1))) _ (Nat.le_trans hBw c2.size) hBo a7 rfl f1) ?_
 rintro _ W8 ⟨u8,rfl,f0,d5,f6⟩
 have c5:=c0.only d5 (by decide)
 refine xb 22 2 c5 ?_
 have a3:=a7.only d5 (by decide)
 refine xb 9 4 a3 ?_
 refine xw 0 (s.blocks-1) ?_
 have b7:=c2.trans f0
 refine xc 0 (args:=#[.pointer (some ⟨bs,7,none⟩),V0 1,V0 (s.blocks-1),P0 bo]) (Qb B bs bo 7 _ s.dslots 1 (s.blocks-1) (((((((true&&decide ((0:Int)≤s.tx∧s.tx≤2147483647))&&decide ((0:Int)≤s.time∧s.time≤16777215))&&decide ((1:Int)≤s.unit∧s.unit≤65536))&&decide ((0:Int)≤s.data∧s.data≤65536))&&decide ((2:Int)≤s.blocks∧s.blocks≤14400))&&decide ((1:Int)≤s.top∧s.top≤(s.blocks-1)))&&decide ((1:Int)≤s.details∧s.details≤(s.blocks-1))) _ (Nat.le_trans hBw b7.size) hBo a3 rfl f6) ?_
 rintro _ W9 ⟨u9,rfl,f7,d8,f5⟩
 have c8:=c5.only d8 (by decide)
 refine xb 22 3 c8 ?_
 have a6:=a3.only d8 (by decide)
 refine xb 9 4 a6 ?_
 refine xw 0 (s.blocks-1) ?_
 have c7:=b7.trans f7
 refine xc 0 (args:=#[.pointer (some ⟨bs,8,none⟩),V0 1,V0 (s.blocks-1),P0 bo]) (Qb B bs bo 8 _ s.dover 1 (s.blocks-1) ((((((((true&&decide ((0:Int)≤s.tx∧s.tx≤2147483647))&&decide ((0:Int)≤s.time∧s.time≤16777215))&&decide ((1:Int)≤s.unit∧s.unit≤65536))&&decide ((0:Int)≤s.data∧s.data≤65536))&&decide ((2:Int)≤s.blocks∧s.blocks≤14400))&&decide ((1:Int)≤s.top∧s.top≤(s.blocks-1)))&&decide ((1:Int)≤s.details∧s.details≤(s.blocks-1)))&&decide ((1:Int)≤s.dslots∧s.dslots≤(s.blocks-1))) _ (Nat.le_trans hBw c7.size) hBo a6 rfl f5) ?_
 rintro _ g4 ⟨g5,rfl,c9,a4,d3⟩
 have c4:=c8.only a4 (by decide)
 refine xb 22 4 c4 ?_
 have a5:=a6.only a4 (by decide)
 refine xb 9 4 a5 ?_
 refine xw 0 (s.blocks-1) ?_
 have c6:=c7.trans c9
 refine xc 0 (args:=#[.pointer (some ⟨bs,9,none⟩),V0 1,V0 (s.blocks-1),P0 bo]) (Qb B bs bo 9 _ s.mindex 1 (s.blocks-1) (((((((((true&&decide ((0:Int)≤s.tx∧s.tx≤2147483647))&&decide ((0:Int)≤s.time∧s.time≤16777215))&&decide ((1:Int)≤s.unit∧s.unit≤65536))&&decide ((0:Int)≤s.data∧s.data≤65536))&&decide ((2:Int)≤s.blocks∧s.blocks≤14400))&&decide ((1:Int)≤s.top∧s.top≤(s.blocks-1)))&&decide ((1:Int)≤s.details∧s.details≤(s.blocks-1)))&&decide ((1:Int)≤s.dslots∧s.dslots≤(s.blocks-1)))&&decide ((1:Int)≤s.dover∧s.dover≤(s.blocks-1))) _ (Nat.le_trans hBw c6.size) hBo a5 rfl d3) ?_
 rintro _ g0 ⟨g1,rfl,d4,a8,d2⟩
 have d0:=c4.only a8 (by decide)
 refine xb 22 5 d0 ?_
 have a1:=a5.only a8 (by decide)
 refine xb 9 4 a1 ?_
 refine xw 0 (s.blocks-1) ?_
 have a0:=c6.trans d4
 refine xc 0 (args:=#[.pointer (some ⟨bs,10,none⟩),V0 1,V0 (s.blocks-1),P0 bo]) (Qb B bs bo 10 _ s.mover 1 (s.blocks-1) ((((((((((true&&decide ((0:Int)≤s.tx∧s.tx≤2147483647))&&decide ((0:Int)≤s.time∧s.time≤16777215))&&decide ((1:Int)≤s.unit∧s.unit≤65536))&&decide ((0:Int)≤s.data∧s.data≤65536))&&decide ((2:Int)≤s.blocks∧s.blocks≤14400))&&decide ((1:Int)≤s.top∧s.top≤(s.blocks-1)))&&decide ((1:Int)≤s.details∧s.details≤(s.blocks-1)))&&decide ((1:Int)≤s.dslots∧s.dslots≤(s.blocks-1)))&&decide ((1:Int)≤s.dover∧s.dover≤(s.blocks-1)))&&decide ((1:Int)≤s.mindex∧s.mindex≤(s.blocks-1))) _ (Nat.le_trans hBw a0.size) hBo a1 rfl d2) ?_
 rintro _ g3 ⟨g2,rfl,d9,d6,d7⟩
 have b0:=a0.trans d9
 have hO:=((((((((((((show Ze [4] w _ from e4).trans e0).trans e3).trans e1).trans e2).trans (Ze.of_below (Za W5))).trans (Ze.of_below n6.below)).trans d1).trans d5).trans d8).trans a4).trans a8).trans d6
 exact xe 19 (.tuple #[]) ⟨_,rfl,b0,hO,d7⟩
theorem Tz(s:Sup)(w:World)(hb0:0≤s.blocks)(hb1:s.blocks<9223372036854775808) :
 C0 166 #[.agg #[V0 s.tx,V0 s.time,V0 s.unit,V0 s.data,V0 s.blocks,V0 s.top,V0 s.details,V0 s.dslots,V0 s.dover,V0 s.mindex,V0 s.mover]] w (Ret (.bool (Yb s)) w):=by
 refine zin 7 Tryz.func166 ?_
 refine xa 2 [V0 s.tx,V0 s.time,V0 s.unit,V0 s.data,V0 s.blocks,V0 s.top,V0 s.details,V0 s.dslots,V0 s.dover,V0 s.mindex,V0 s.mover] 44 fun b1 W1 n1=>?_
 refine xa 5 [.bool false] 4 fun b2 W2 n2=>?_
 refine xs 0 n2.blk [.bool true] fun W3 u3 k3=>?_
 have g2:=n2.ge n1.below
 have hB:=u3.below (bln n1.below n2.below) g2
 have k1:=u3.blkT (n1.blk.below n2.below) n2.blk (by decide)
 refine xc 5 (args:=#[P0 b1,.func (.func 237) #[] #[P0 b2]]) (Ed w.heap.size b1 b2 s _ hB.size g2 hb0 hb1 k1 k3) ?_
 rintro _ W4 ⟨u4,rfl,a1,a3,a2⟩
 refine xb 4 0 a2 ?_
 have a0:=hB.trans a1
 exact xe 4 (.bool (Yb s)) ⟨rfl,a0⟩
theorem Vk(B Bx bs bl off n:Nat)(cs:List Value)(x:Int)(lo hi:Value)(p:O0)(c:Nat)(N:List Int)(w:World)(hBm:B≤Bx)(hBx:Bx≤w.heap.size)(hBw:B≤w.heap.size)(hBl:B≤bl)(ks:Blk w bs cs 44)(hn:cs[off]? = some (V0 x))(kl:Blk w bl [.slice p n c] 272)(hup:w.ownsRow Bx 271 2 (.slice p n c) n (N.flatMap Fo))(hnn:n≤1000) :
 C0 168 #[.pointer (some ⟨bs,off,none⟩),lo,hi,P0 bl] w ((fun e w'=>∃ u p' c',e=.returned u∧Below B w w'∧Ze [272,271] w w'∧Blk w' bl [.slice p' (n+1) c'] 272∧w'.ownsRow Bx 271 2 (.slice p' (n+1) c') (n+1) ((N++[x]).flatMap Fo))):=by
 refine zin 14 Tryz.func168 ?_
 refine xd 0 (.t B [272,271]) ?_
 have b5:=ks.below (Za w)
 refine xlt (.e [1,2] 3) (.t B [272,271]) (fun V hV=>(b5.only hV.2 (by decide)).cell (i:=off) hn) ?_
 refine xm2 (.b [4]) 0 5 ?_ ?_
 ·have a6:=kl.below (Za w)
  refine xb 0 0 a6 ?_
  refine xbs (.o [] 5) 1 [V0 4,V0 x] 271 fun b1 W1 n1=>?_
  have a4:=Zb hup (Za w)
  have b7:=Zx a4 n1
  have a1:=Zb a4 n1.below
  have hB:=blB (blB (Below.refl B w) hBw (Za w)) hBw n1.below
  refine ybi (.o [] 6) (.t B [272,271]) fun _ _ _ _ zJ zQ zo zx zy zK=>Zw (m:=1) (news:=[V0 4,V0 x]) (.agg #[V0 0,V0 0]) 2 16 (n+1) (((N++[x]).flatMap Fo)) zo Tryz.underlying272 (by kernel_rfl) rfl (by decide) zx a1 zy (n1.blk.sl 1 1 (by decide) (by decide)) rfl (by simp[Value.oneCell']) (by unfold maxLen;omega) (by omega) (Nat.le_trans hBx hB.size) (by rfl) (by rw[List.flatMap_append];rfl) fun c2 c3 W2 o2 a8 b9=>?_
  refine zK _ _ (Zu (b9.mono hBm) a8 a1 (by decide)) ?_
  have a3:=(a6.below n1.below).grown a8 a1 (by decide)
  refine ys (.o [] 7) a3 [.slice c2 (n+1) c3] (.t B [272,271]) fun W3 u3 k3=>⟨(Zp u3 a3 hBl (by decide)),?_⟩
  have b0:=u3.below (hB.trans (b9.mono hBm)) hBl
  have hO:=(((show Ze [272,271] w _ from(Ze.of_below (Za w))).trans (Ze.of_below n1.below)).trans (Ze.of_grown a8 a1 (by decide))).trans (Ze.of_upd u3 a3 (by decide))
  have b3:=u3.own2 o2 a3 (by decide)
  exact xe 1 (.tuple #[]) ⟨_,_,_,rfl,b0,hO,k3,b3⟩
 refine xbs 0 1 [V0 4,V0 x] 271 fun b4 W4 n4=>?_
 have a5:=Zb hup (Za w)
 have b2:=Zx a5 n4
 have a7:=(kl.below (Za w)).below n4.below
 refine xb (.o [] 0) 0 a7 ?_
 have a0:=Zb a5 n4.below
 have hB:=blB (blB (Below.refl B w) hBw (Za w)) hBw n4.below
 refine ybi (.o [] 6) (.t B [272,271]) fun _ _ _ _ zJ zQ zo zx zy zK=>Zw (m:=1) (news:=[V0 4,V0 x]) (.agg #[V0 0,V0 0]) 2 16 (n+1) (((N++[x]).flatMap Fo)) zo Tryz.underlying272 (by kernel_rfl) rfl (by decide) zx a0 zy (n4.blk.sl 1 1 (by decide) (by decide)) rfl (by simp[Value.oneCell']) (by unfold maxLen;omega) (by omega) (Nat.le_trans hBx hB.size) (by rfl) (by rw[List.flatMap_append];rfl) fun c1 c4 W5 o5 b8 c0=>?_
 refine zK _ _ (Zu (c0.mono hBm) b8 a0 (by decide)) ?_
 have a2:=a7.grown b8 a0 (by decide)
 refine ys (.o [] 7) a2 [.slice c1 (n+1) c4] (.t B [272,271]) fun W6 u6 k6=>⟨(Zp u6 a2 hBl (by decide)),?_⟩
 have b6:=u6.below (hB.trans (c0.mono hBm)) hBl
 have hO:=(((show Ze [272,271] w _ from(Ze.of_below (Za w))).trans (Ze.of_below n4.below)).trans (Ze.of_grown b8 a0 (by decide))).trans (Ze.of_upd u6 a2 (by decide))
 have a9:=u6.own2 o5 a2 (by decide)
 exact xe 1 (.tuple #[]) ⟨_,_,_,rfl,b6,hO,k6,a9⟩
theorem Im(B Bx bs bl:Nat)(s:Sup)(p0:O0)(c0:Nat)(w:World)(hBm:B≤Bx)(hBx:Bx≤w.heap.size)(hBw:B≤w.heap.size)(hBl:B≤bl)(hb0:0≤s.blocks)(hb1:s.blocks<9223372036854775808)(ks:Blk w bs [V0 s.tx,V0 s.time,V0 s.unit,V0 s.data,V0 s.blocks,V0 s.top,V0 s.details,V0 s.dslots,V0 s.dover,V0 s.mindex,V0 s.mover] 44)(kl:Blk w bl [.slice p0 1 c0] 272)(hr0:w.ownsRow Bx 271 2 (.slice p0 1 c0) 1 ([1].flatMap Fo)) :
 C0 167 #[P0 bs,.func (.func 168) #[] #[P0 bl]] w ((fun e w'=>∃ u p c,e=.returned u∧Below B w w'∧Ze [272,271] w w'∧Blk w' bl [.slice p 12 c] 272∧w'.ownsRow Bx 271 2 (.slice p 12 c) 12 ((1::Iz s).flatMap Fo))):=by
 refine zin 64 Tryz.func167 ?_
 refine xc 6 (args:=#[P0 bs,V0 0,V0 2147483647,P0 bl]) (Vk B Bx bs bl 0 1 _ s.tx _ _ p0 c0 [1] _ hBm (Nat.le_trans hBx (Below.refl B _).size) (Nat.le_trans hBw (Below.refl B _).size) hBl ks rfl kl hr0 (by decide)) ?_
 rintro _ W1 ⟨u1,p1,c1,rfl,hb1,i1,f7,i9⟩
 have f3:World.ownsRow _ _ _ _ (.slice p1 2 c1) 2 ([1,s.tx].flatMap Fo):=i9
 replace f7:Blk _ _ [.slice p1 2 c1] _:=f7
 have d3:=ks.only i1 (by decide)
 refine xc 8 (args:=#[.pointer (some ⟨bs,1,none⟩),V0 0,V0 16777215,P0 bl]) (Vk B Bx bs bl 1 2 _ s.time _ _ p1 c1 [1,s.tx] _ hBm (Nat.le_trans hBx hb1.size) (Nat.le_trans hBw hb1.size) hBl d3 rfl f7 f3 (by decide)) ?_
 rintro _ W2 ⟨u2,p2,c2,rfl,j1,h5,g5,i5⟩
 have g3:World.ownsRow _ _ _ _ (.slice p2 3 c2) 3 ([1,s.tx,s.time].flatMap Fo):=i5
 replace g5:Blk _ _ [.slice p2 3 c2] _:=g5
 have b9:=hb1.trans j1
 have d2:=d3.only h5 (by decide)
 refine xc 8 (args:=#[.pointer (some ⟨bs,2,none⟩),V0 1,V0 65536,P0 bl]) (Vk B Bx bs bl 2 3 _ s.unit _ _ p2 c2 [1,s.tx,s.time] _ hBm (Nat.le_trans hBx b9.size) (Nat.le_trans hBw b9.size) hBl d2 rfl g5 g3 (by decide)) ?_
 rintro _ W3 ⟨u3,p3,c3,rfl,j5,i0,h1,j6⟩
 have f9:World.ownsRow _ _ _ _ (.slice p3 4 c3) 4 ([1,s.tx,s.time,s.unit].flatMap Fo):=j6
 replace h1:Blk _ _ [.slice p3 4 c3] _:=h1
 have a5:=b9.trans j5
 have e1:=d2.only i0 (by decide)
 refine xc 8 (args:=#[.pointer (some ⟨bs,3,none⟩),V0 0,V0 65536,P0 bl]) (Vk B Bx bs bl 3 4 _ s.data _ _ p3 c3 [1,s.tx,s.time,s.unit] _ hBm (Nat.le_trans hBx a5.size) (Nat.le_trans hBw a5.size) hBl e1 rfl h1 f9 (by decide)) ?_
 rintro _ W4 ⟨u4,p4,c4,rfl,i7,h7,h4,j2⟩
 have f1:World.ownsRow _ _ _ _ (.slice p4 5 c4) 5 ([1,s.tx,s.time,s.unit,s.data].flatMap Fo):=j2
 replace h4:Blk _ _ [.slice p4 5 c4] _:=h4
 have b3:=a5.trans i7
 have e0:=e1.only h7 (by decide)
 refine xc 8 (args:=#[.pointer (some ⟨bs,4,none⟩),V0 2,V0 14400,P0 bl]) (Vk B Bx bs bl 4 5 _ s.blocks _ _ p4 c4 [1,s.tx,s.time,s.unit,s.data] _ hBm (Nat.le_trans hBx b3.size) (Nat.le_trans hBw b3.size) hBl e0 rfl h4 f1 (by decide)) ?_
 rintro _ W5 ⟨u5,p5,c5,rfl,j3,h8,e9,i8⟩
 have f6:World.ownsRow _ _ _ _ (.slice p5 6 c5) 6 ([1,s.tx,s.time,s.unit,s.data,s.blocks].flatMap Fo):=i8
 replace e9:Blk _ _ [.slice p5 6 c5] _:=e9
 refine xd 3 .z ?_
 refine xbs (.o [0,1,2,3,4,5,6,7,8,9,10,11,12,13,14,15,16,17,20] 18) 6 [.pointer (some ⟨bs,5,none⟩),.pointer (some ⟨bs,6,none⟩),.pointer (some ⟨bs,7,none⟩),.pointer (some ⟨bs,8,none⟩),.pointer (some ⟨bs,9,none⟩),.pointer (some ⟨bs,10,none⟩)] 275 fun b6 W6 n6=>?_
 have e2:=blB (b3.trans j3) hBw (Za W5)
 have g6:=n6.ge0 e2
 refine xu (.r [19] 3) 7 ?_
 refine xb 14 0 n6.blk ?_
 have a2:=((e0.only h8 (by decide)).below (Za W5)).below n6.below
 refine xb 9 4 a2 ?_
 refine xw 0 (s.blocks-1) ?_
 have b0:=blB e2 hBw n6.below
 have d4:=(e9.below (Za W5)).below n6.below
 have a6:=Zb (Zb f6 (Za W5)) n6.below
 refine xc 0 (args:=#[.pointer (some ⟨bs,5,none⟩),V0 1,V0 (s.blocks-1),P0 bl]) (Vk B Bx bs bl 5 6 _ s.top _ _ p5 c5 [1,s.tx,s.time,s.unit,s.data,s.blocks] _ hBm (Nat.le_trans hBx b0.size) (Nat.le_trans hBw b0.size) hBl a2 rfl d4 a6 (by decide)) ?_
 rintro _ W7 ⟨u7,p6,c6,rfl,i4,f2,g1,i3⟩
 have g4:World.ownsRow _ _ _ _ (.slice p6 7 c6) 7 ([1,s.tx,s.time,s.unit,s.data,s.blocks,s.top].flatMap Fo):=i3
 replace g1:Blk _ _ [.slice p6 7 c6] _:=g1
 have d8:=n6.blk.only f2 (by decide)
 refine xb 22 1 d8 ?_
 have b8:=a2.only f2 (by decide)
 refine xb 9 4 b8 ?_
 refine xw 0 (s.blocks-1) ?_
 have b7:=b0.trans i4
 refine xc 0 (args:=#[.pointer (some ⟨bs,6,none⟩),V0 1,V0 (s.blocks-1),P0 bl]) (Vk B Bx bs bl 6 7 _ s.details _ _ p6 c6 [1,s.tx,s.time,s.unit,s.data,s.blocks,s.top] _ hBm (Nat.le_trans hBx b7.size) (Nat.le_trans hBw b7.size) hBl b8 rfl g1 g4 (by decide)) ?_
 rintro _ W8 ⟨u8,p7,c7,rfl,j4,f4,h0,j7⟩
 have h2:World.ownsRow _ _ _ _ (.slice p7 8 c7) 8 ([1,s.tx,s.time,s.unit,s.data,s.blocks,s.top,s.details].flatMap Fo):=j7
 replace h0:Blk _ _ [.slice p7 8 c7] _:=h0
 have e3:=d8.only f4 (by decide)
 refine xb 22 2 e3 ?_
 have b2:=b8.only f4 (by decide)
 refine xb 9 4 b2 ?_
 refine xw 0 (s.blocks-1) ?_
 have a3:=b7.trans j4
 refine xc 0 (args:=#[.pointer (some ⟨bs,7,none⟩),V0 1,V0 (s.blocks-1),P0 bl]) (Vk B Bx bs bl 7 8 _ s.dslots _ _ p7 c7 [1,s.tx,s.time,s.unit,s.data,s.blocks,s.top,s.details] _ hBm (Nat.le_trans hBx a3.size) (Nat.le_trans hBw a3.size) hBl b2 rfl h0 h2 (by decide)) ?_
 rintro _ W9 ⟨u9,p8,c8,rfl,i6,e8,f5,j0⟩
 have e6:World.ownsRow _ _ _ _ (.slice p8 9 c8) 9 ([1,s.tx,s.time,s.unit,s.data,s.blocks,s.top,s.details,s.dslots].flatMap Fo):=j0
 replace f5:Blk _ _ [.slice p8 9 c8] _:=f5
 have d9:=e3.only e8 (by decide)
 refine xb 22 3 d9 ?_
 have b5:=b2.only e8 (by decide)
 refine xb 9 4 b5 ?_
 refine xw 0 (s.blocks-1) ?_
 have a8:=a3.trans i6
 refine xc 0 (args:=#[.pointer (some ⟨bs,8,none⟩),V0 1,V0 (s.blocks-1),P0 bl]) (Vk B Bx bs bl 8 9 _ s.dover _ _ p8 c8 [1,s.tx,s.time,s.unit,s.data,s.blocks,s.top,s.details,s.dslots] _ hBm (Nat.le_trans hBx a8.size) (Nat.le_trans hBw a8.size) hBl b5 rfl f5 e6 (by decide)) ?_
 rintro _ k3 ⟨j9,p9,c9,rfl,g0,b4,b1,i2⟩
 have h3:World.ownsRow _ _ _ _ (.slice p9 10 c9) 10 ([1,s.tx,s.time,s.unit,s.data,s.blocks,s.top,s.details,s.dslots,s.dover].flatMap Fo):=i2
 replace b1:Blk _ _ [.slice p9 10 c9] _:=b1
 have d5:=d9.only b4 (by decide)
 refine xb 22 4 d5 ?_
 have d1:=b5.only b4 (by decide)
 refine xb 9 4 d1 ?_
 refine xw 0 (s.blocks-1) ?_
 have a7:=a8.trans g0
 refine xc 0 (args:=#[.pointer (some ⟨bs,9,none⟩),V0 1,V0 (s.blocks-1),P0 bl]) (Vk B Bx bs bl 9 10 _ s.mindex _ _ p9 c9 [1,s.tx,s.time,s.unit,s.data,s.blocks,s.top,s.details,s.dslots,s.dover] _ hBm (Nat.le_trans hBx a7.size) (Nat.le_trans hBw a7.size) hBl d1 rfl b1 h3 (by decide)) ?_
 rintro _ k1 ⟨k2,f0,g2,rfl,g8,a9,d0,g7⟩
 have d7:World.ownsRow _ _ _ _ (.slice f0 11 g2) 11 ([1,s.tx,s.time,s.unit,s.data,s.blocks,s.top,s.details,s.dslots,s.dover,s.mindex].flatMap Fo):=g7
 replace d0:Blk _ _ [.slice f0 11 g2] _:=d0
 have e5:=d5.only a9 (by decide)
 refine xb 22 5 e5 ?_
 have a1:=d1.only a9 (by decide)
 refine xb 9 4 a1 ?_
 refine xw 0 (s.blocks-1) ?_
 have a0:=a7.trans g8
 refine xc 0 (args:=#[.pointer (some ⟨bs,10,none⟩),V0 1,V0 (s.blocks-1),P0 bl]) (Vk B Bx bs bl 10 11 _ s.mover _ _ f0 g2 [1,s.tx,s.time,s.unit,s.data,s.blocks,s.top,s.details,s.dslots,s.dover,s.mindex] _ hBm (Nat.le_trans hBx a0.size) (Nat.le_trans hBw a0.size) hBl a1 rfl d0 d7 (by decide)) ?_
 rintro _ j8 ⟨k0,h6,h9,rfl,f8,e7,a4,g9⟩
 have e4:World.ownsRow _ _ _ _ (.slice h6 12 h9) 12 ([1,s.tx,s.time,s.unit,s.data,s.blocks,s.top,s.details,s.dslots,s.dover,s.mindex,s.mover].flatMap Fo):=g9
 replace a4:Blk _ _ [.slice h6 12 h9] _:=a4
 have d6:=a0.trans f8
 have hO:=((((((((((((show Ze [272,271] w _ from i1).trans h5).trans i0).trans h7).trans h8).trans (Ze.of_below (Za W5))).trans (Ze.of_below n6.below)).trans f2).trans f4).trans e8).trans b4).trans a9).trans e7
 exact xe 19 (.tuple #[]) ⟨_,_,_,rfl,d6,hO,a4,e4⟩
abbrev Dg:=Int×Int×Int
def Xk(k:Int)(f:List Int×Int):Dg:=(k,Kr f.1,f.2)
def Wi(x:Ent):Int:=if 16777215<x.1 then 9 else Xt Ky x.2.1
def Tw(x:Ent):List Dg:=if Wi x=0 then [] else [((2:Int),x.2.2,Wi x)]
def Yy(es:List Ent):List Dg:=es.flatMap Tw
def Ah(data:Int)(x:Ent):List Dg:=if Vj data x.2.1=0 then [] else [((3:Int),x.2.2,Vj data x.2.1)]
def Jm(data:Int)(es:List Ent):List Dg:=es.flatMap (Ah data)
def Ou(data:Int)(x:Ent):List Mp:=if Vj data x.2.1=0 then [Zfn x] else []
def mapM(data:Int)(es:List Ent):List Mp:=es.flatMap (Ou data)
def Zak(l:Bl)(data fuel r:Int):List Dg:=(Zd l r 2 fuel).fs.map (Xk 3)++Jm data (Zd l r 2 fuel).es
def Jl(l:Bl)(data fuel r:Int):List Mp:=mapM data (Zd l r 2 fuel).es
def Dx(seen:List Int)(x:Ent):List Int:=if Xo x.2.1=0∧((Zo x.2.1:Nat):Int)∉seen then seen++[((Zo x.2.1:Nat):Int)] else seen
def Lj(l:Bl)(data fuel:Int)(seen:List Int)(x:Ent):List Dg:=if Xo x.2.1=0 then(if((Zo x.2.1:Nat):Int)∈seen then [] else Zak l data fuel (Zo x.2.1:Nat)) else [((3:Int),x.2.2,Xo x.2.1)]
def Gx(l:Bl)(data fuel:Int):List Ent→List Int→List Dg
 | [],_=>[]
 | x::T,seen=>Lj l data fuel seen x++Gx l data fuel T (Dx seen x)
def Qm(T:List Ent):List Int:=T.foldl Dx []
theorem Uw(T:List Ent)(x:Ent):Qm (T++[x])=Dx (Qm T) x:=by simp[Qm]
theorem Tu(T:List Ent)(r:Int):r∈Qm T↔∃ x∈T,Xo x.2.1=0∧((Zo x.2.1:Nat):Int)=r:=by
 suffices h:∀ (T:List Ent) (s:List Int),r∈T.foldl Dx s↔r∈s∨∃ x∈T,Xo x.2.1=0∧((Zo x.2.1:Nat):Int)=r by
  rw[Qm,h];simp
 intro T
 induction T with
 | nil=>intro s;simp
 | cons x T ih =>
  intro s
  rw[List.foldl_cons,ih]
  unfold Dx
  by_cases h1:Xo x.2.1=0
  ·by_cases h2:((Zo x.2.1:Nat):Int)∈s
   ·rw[if_neg (fun q=>q.2 h2)]
    constructor
    ·rintro(h|⟨y,hy,h⟩)
     ·exact .inl h
     ·exact .inr ⟨y,List.mem_cons_of_mem _ hy,h⟩
    ·rintro(h|⟨y,hy,h3,h4⟩)
     ·exact .inl h
     ·rcases List.mem_cons.1 hy with rfl|hy
      ·exact .inl (h4▸h2)
      ·exact .inr ⟨y,hy,h3,h4⟩
   ·rw[if_pos ⟨h1,h2⟩]
    constructor
    ·rintro(h|⟨y,hy,h⟩)
     ·rcases List.mem_append.1 h with h|h
      ·exact .inl h
      ·exact .inr ⟨x,List.mem_cons_self,h1,(List.mem_singleton.1 h).symm⟩
     ·exact .inr ⟨y,List.mem_cons_of_mem _ hy,h⟩
    ·rintro(h|⟨y,hy,h3,h4⟩)
     ·exact .inl (List.mem_append_left _ h)
     ·rcases List.mem_cons.1 hy with rfl|hy
      ·exact .inl (List.mem_append_right _ (List.mem_singleton.2 h4.symm))
      ·exact .inr ⟨y,hy,h3,h4⟩
  ·rw[if_neg (fun q=>h1 q.1)]
   constructor
   ·rintro(h|⟨y,hy,h⟩)
    ·exact .inl h
    ·exact .inr ⟨y,List.mem_cons_of_mem _ hy,h⟩
   ·rintro(h|⟨y,hy,h3,h4⟩)
    ·exact .inl h
    ·rcases List.mem_cons.1 hy with rfl|hy
     ·exact absurd h3 h1
     ·exact .inr ⟨y,hy,h3,h4⟩
theorem Zgz{v v':Bl}(h:Xo v=0)(h':Xo v'=0)(e:((Zo v:Nat):Int)=((Zo v':Nat):Int)):v=v':=by
 have hl:∀ u:Bl,Xo u=0→u.length=4:=fun u q=>by
  unfold Xo at q
  split at q
  ·assumption
  ·simp at q
 have e2:Zl v 0 4=Zl v' 0 4:=by
  unfold Zo at e
  rw[if_pos h,if_pos h'] at e
  omega
 have a:=Rr (l:=v) (k:=0) (w:=4) (by rw[hl v h];omega)
 have b:=Rr (l:=v') (k:=0) (w:=4) (by rw[hl v' h'];omega)
 rw[e2,b,List.drop_zero,List.drop_zero,List.take_of_length_le (by rw[hl v' h'];omega),List.take_of_length_le (by rw[hl v h];omega)] at a
 exact a.symm
def Xs(l:Bl)(s:Sup)(fuel:Int):List Dg:=(Zd l s.details 3 fuel).fs.map (Xk 2)++Yy (Zd l s.details 3 fuel).es++(Zd l s.top 1 fuel).fs.map (Xk 3)++Gx l s.data fuel (Zd l s.top 1 fuel).es []
def Pi(L:List Ent)(id:Int):Option Ent:=L.find? fun x=>x.1==id
def Zbf(l:Bl)(data fuel:Int)(D T:List Ent)(id:Int):List Dg :=
 match Pi D id,Pi T id with
 | some x,some y=>if((Xu x.2.1 0:Nat):Int)=(Jl l data fuel (Zo y.2.1:Nat)).length then [] else [((4:Int),id,(13:Int))]
 | _,_=>[((4:Int),id,(18:Int))]
def Zer(l:Bl)(data fuel:Int)(D T:List Ent)(id:Int):List Dv :=
 match Pi D id,Pi T id with
 | some x,some y=>[((id,((Xu x.2.1 1:Nat):Int),((Xu x.2.1 2:Nat):Int),((Xu x.2.1 3:Nat):Int)),Jl l data fuel (Zo y.2.1:Nat))]
 | _,_=>[]
def Rv(D T:List Ent)(P:List Int):Prop:=P.Pairwise (·<·)∧∀ z,z∈P↔z∈D.map Prod.fst∨z∈T.map Prod.fst
theorem Tx:∀ {P Q:List Int},P.Pairwise (·<·)→Q.Pairwise (·<·)→(∀ z,z∈P↔z∈Q)→P=Q
  | [],[],_,_,_=>rfl
  | [],b::Q,_,_,h=>absurd ((h b).2 List.mem_cons_self) (by simp)
  | a::P,[],_,_,h=>absurd ((h a).1 List.mem_cons_self) (by simp)
  | a::P,b::Q,hp,hq,h=>by
    rw[List.pairwise_cons] at hp hq
    have e:a=b:=by
      rcases List.mem_cons.1 ((h a).1 List.mem_cons_self) with e|m
      · exact e
      · rcases List.mem_cons.1 ((h b).2 List.mem_cons_self) with e|m2
        · exact e.symm
        · have:=hq.1 a m;have:=hp.1 b m2;omega
    subst e
    congr 1
    refine Tx hp.2 hq.2 fun z=>?_
    constructor
    · intro m
      have:=hp.1 z m
      rcases List.mem_cons.1 ((h z).1 (List.mem_cons_of_mem _ m)) with e|m2
      · omega
      · exact m2
    · intro m
      have:=hq.1 z m
      rcases List.mem_cons.1 ((h z).2 (List.mem_cons_of_mem _ m)) with e|m2
      · omega
      · exact m2
theorem Rv.eq{D T:List Ent}{P Q:List Int}(h:Rv D T P)(k:Rv D T Q):P=Q:=Tx h.1 k.1 fun z=>(h.2 z).trans (k.2 z).symm
theorem Zbi(D T:List Ent):∃ P,Rv D T P:=by
  have h:∀ L:List Int,∃ P:List Int,P.Pairwise (·<·)∧∀ z,z∈P↔z∈L:=by
    intro L
    induction L with
    | nil=>exact⟨[],.nil,fun z=>Iff.rfl⟩
    | cons a L ih =>
      obtain⟨P,h1,h2⟩:=ih
      refine⟨P.filter (·<a)++a::P.filter (a<·),?_,fun z=>?_⟩
      · rw[List.pairwise_append]
        refine⟨h1.filter _,?_,fun x hx y hy=>?_⟩
        · rw[List.pairwise_cons]
          exact⟨fun y hy=>by simpa using (List.mem_filter.1 hy).2,h1.filter _⟩
        · have:=(List.mem_filter.1 hx).2
          simp only[decide_eq_true_eq] at this
          rcases List.mem_cons.1 hy with rfl|hy
          · exact this
          · have h3:=(List.mem_filter.1 hy).2
            simp only[decide_eq_true_eq] at h3
            omega
      · simp only[List.mem_append,List.mem_filter,List.mem_cons,decide_eq_true_eq,h2]
        constructor
        · rintro(⟨h,_⟩|rfl|⟨h,_⟩)
          · exact .inr h
          · exact .inl rfl
          · exact .inr h
        · rintro(rfl|h)
          · exact .inr (.inl rfl)
          · by_cases e:z=a
            · exact .inr (.inl e)
            · by_cases q:z<a
              · exact .inl ⟨h,q⟩
              · exact .inr (.inr ⟨h,by omega⟩)
  obtain⟨P,h1,h2⟩:=h (D.map Prod.fst++T.map Prod.fst)
  exact⟨P,h1,fun z=>by rw[h2,List.mem_append]⟩
def Ye(l:Bl)(data fuel:Int)(D T:List Ent)(P:List Int):List Dg:=P.flatMap (Zbf l data fuel D T)
def Vi(l:Bl)(data fuel:Int)(D T:List Ent)(P:List Int):List Dv:=P.flatMap (Zer l data fuel D T)
def audO(l:Bl)(s:Sup)(fuel:Int)(P:List Int):List Dg×List Dv :=
 if Xs l s fuel≠[] then(Xs l s fuel,[])
 else if Ye l s.data fuel (Zd l s.details 3 fuel).es (Zd l s.top 1 fuel).es P≠[] then(Ye l s.data fuel (Zd l s.details 3 fuel).es (Zd l s.top 1 fuel).es P,[])
 else if 4096<(Vi l s.data fuel (Zd l s.details 3 fuel).es (Zd l s.top 1 fuel).es P).length∨16384<Kt (Vi l s.data fuel (Zd l s.details 3 fuel).es (Zd l s.top 1 fuel).es P) then([((4:Int),(0:Int),(2:Int))],[])
 else([],Vi l s.data fuel (Zd l s.details 3 fuel).es (Zd l s.top 1 fuel).es P)
theorem Ze4{l:Bl}{s:Sup}{fuel:Int}{P:List Int}(h:Xs l s fuel≠[]):audO l s fuel P=(Xs l s fuel,[]):=if_pos h
theorem Ig{data:Int}{es:List Ent}{i:Nat}(hi:i<es.length):Jm data (es.take (i+1))=Jm data (es.take i)++Ah data (es.getD i Zj):=by
 unfold Jm
 rw[List.take_succ_eq_append_getElem hi,List.flatMap_append,show es.getD i Zj=es[i] from by simp[List.getD,hi]]
 simp
theorem Tk{data:Int}{es:List Ent}{i:Nat}(hi:i<es.length):mapM data (es.take (i+1))=mapM data (es.take i)++Ou data (es.getD i Zj):=by
 unfold mapM
 rw[List.take_succ_eq_append_getElem hi,List.flatMap_append,show es.getD i Zj=es[i] from by simp[List.getD,hi]]
 simp
theorem Ds{es:List Ent}{i:Nat}(hi:i<es.length):Yy (es.take (i+1))=Yy (es.take i)++Tw (es.getD i Zj):=by
 unfold Yy
 rw[List.take_succ_eq_append_getElem hi,List.flatMap_append,show es.getD i Zj=es[i] from by simp[List.getD,hi]]
 simp
theorem Dt{l:Bl}{data fuel:Int}{T:List Ent}{i:Nat}(hi:i<T.length):Gx l data fuel (T.drop i) (Qm (T.take i))=Lj l data fuel (Qm (T.take i)) (T.getD i Zj)++Gx l data fuel (T.drop (i+1)) (Qm (T.take (i+1))):=by
 rw[List.drop_eq_getElem_cons hi,List.take_succ_eq_append_getElem hi,Uw,show T.getD i Zj=T[i] from by simp[List.getD,hi]]
 rfl
theorem Zcb(data:Int)(es:List Ent):(Jm data es).length≤es.length:=by
 induction es with
 | nil=>exact Nat.le_refl _
 | cons x es ih =>
  show(Ah data x++Jm data es).length≤_
  rw[List.length_append,List.length_cons]
  have:(Ah data x).length≤1:=by unfold Ah;split<;>simp
  omega
theorem Zch(data:Int)(es:List Ent):(mapM data es).length≤es.length:=by
 induction es with
 | nil=>exact Nat.le_refl _
 | cons x es ih =>
  show(Ou data x++mapM data es).length≤_
  rw[List.length_append,List.length_cons]
  have:(Ou data x).length≤1:=by unfold Ou;split<;>simp
  omega
theorem Lw(es:List Ent):(Yy es).length≤es.length:=by
 induction es with
 | nil=>exact Nat.le_refl _
 | cons x es ih =>
  show(Tw x++Yy es).length≤_
  rw[List.length_append,List.length_cons]
  have:(Tw x).length≤1:=by unfold Tw;split<;>simp
  omega
end Go.Proofs.YtegcamkgeacjfaaGreatDoor
namespace Go.Proofs.YtegcamkgeacjfaaGreatDoor
set_option maxHeartbeats 8000000
set_option maxRecDepth 100000
open Go.RowKit Go.Extern.Stop Go.Stop Go.Extern
set_option linter.unusedVariables false
attribute [local irreducible] wpList wpAnyH Code.wp Oper.wp Go
structure Maps3(B r1 r2 r3:Nat)(kd kr km:List (Int×Value))(w:World):Prop where
 m1:Kn (Value.int .i64) w r1 kd
 m2:Kn (Value.int .i64) w r2 kr
 m3:Kn (Value.int .i64) w r3 km
 n12:r1≠r2
 n13:r1≠r3
 n23:r2≠r3
 g1:B≤r1
 g2:B≤r2
 g3:B≤r3
variable {B r1 r2 r3:Nat} {kd kr km:List (Int×Value)} {w W:World}
theorem Maps3.below(h:Maps3 B r1 r2 r3 kd kr km w)(hb:B0 w W):Maps3 B r1 r2 r3 kd kr km W:=⟨h.m1.below hb,h.m2.below hb,h.m3.below hb,h.n12,h.n13,h.n23,h.g1,h.g2,h.g3⟩
theorem Maps3.updBlk{b:Nat}{cs:List Value}{t:TypeId}(h:Maps3 B r1 r2 r3 kd kr km w)(u:Upd w b W)(k:Blk w b cs t):Maps3 B r1 r2 r3 kd kr km W:=⟨h.m1.updBlk u k,h.m2.updBlk u k,h.m3.updBlk u k,h.n12,h.n13,h.n23,h.g1,h.g2,h.g3⟩
theorem Maps3.grown{base size n:Nat}{e:TypeId}{v:Value}{xs:List Value}(h:Maps3 B r1 r2 r3 kd kr km w)(hg:w.grownBy W v.ownBlock)(k:w.ownsRow base e size v n xs):Maps3 B r1 r2 r3 kd kr km W:=⟨h.m1.grown hg k,h.m2.grown hg k,h.m3.grown hg k,h.n12,h.n13,h.n23,h.g1,h.g2,h.g3⟩
theorem Maps3.put1{kv:List (Int×Value)}(h:Maps3 B r1 r2 r3 kd kr km w)(u:Upd w r1 W)(m:Kn V0 W r1 kv):Maps3 B r1 r2 r3 kv kr km W:=⟨m,h.m2.upd u h.n12.symm,h.m3.upd u h.n13.symm,h.n12,h.n13,h.n23,h.g1,h.g2,h.g3⟩
theorem Maps3.put2{kv:List (Int×Value)}(h:Maps3 B r1 r2 r3 kd kr km w)(u:Upd w r2 W)(m:Kn V0 W r2 kv):Maps3 B r1 r2 r3 kd kv km W:=⟨h.m1.upd u h.n12,m,h.m3.upd u h.n23.symm,h.n12,h.n13,h.n23,h.g1,h.g2,h.g3⟩
theorem Maps3.put3{kv:List (Int×Value)}(h:Maps3 B r1 r2 r3 kd kr km w)(u:Upd w r3 W)(m:Kn V0 W r3 kv):Maps3 B r1 r2 r3 kd kr kv W:=⟨h.m1.upd u h.n13,h.m2.upd u h.n23,m,h.n12,h.n13,h.n23,h.g1,h.g2,h.g3⟩
theorem Maps3.iter{r it:Nat}{kv:List (Int×Value)}{out:List Int}{V:World}(h:Maps3 B r1 r2 r3 kd kr km w)(i:Vd V0 w r it kv out)(hb:B0 w V)(u:Upd V it W):Maps3 B r1 r2 r3 kd kr km W :=
 ⟨(h.m1.below hb).upd u (i.ne_map h.m1),(h.m2.below hb).upd u (i.ne_map h.m2),(h.m3.below hb).upd u (i.ne_map h.m3),h.n12,h.n13,h.n23,h.g1,h.g2,h.g3⟩
def Ks(F:Int→List Mp)(km:List (Int×Value))(W:World):Prop:=∀ p∈km,∃ a c,p.2=.slice a (F p.1).length c∧W.ownsRow 0 164 3 (.slice a (F p.1).length c) (F p.1).length ((F p.1).flatMap Hs)
variable {F:Int→List Mp}
theorem Ks.below(h:Ks F km w)(hb:B0 w W):Ks F km W:=fun p hp=>by
 obtain⟨a,c,h1,h2⟩:=h p hp
 exact⟨a,c,h1,Zb h2 hb⟩
theorem Ks.only{T:List TypeId}(h:Ks F km w)(k:Ze T w W)(hT:T.contains 164=false):Ks F km W:=fun p hp=>by
 obtain⟨a,c,h1,h2⟩:=h p hp
 exact⟨a,c,h1,Zn h2 k hT⟩
theorem Ks.snoc{r:Int}{a:O0}{c:Nat}{base:Nat}(h:Ks F km W)(ho:W.ownsRow base 164 3 (.slice a (F r).length c) (F r).length ((F r).flatMap Hs)):Ks F (km++[(r,.slice a (F r).length c)]) W:=fun p hp=>by
 rcases List.mem_append.1 hp with hp|hp
 ·exact h p hp
 ·obtain rfl:=List.mem_singleton.1 hp
  exact⟨a,c,rfl,Zg ho (Nat.zero_le _)⟩
theorem Ks.nil(W:World):Ks F [] W:=fun _ h=>by cases h
theorem Ks.get{r:Int}(h:Ks F km w)(hr:r∈km.map Prod.fst):∃ a c,Vm km r=some (.slice a (F r).length c)∧w.ownsRow 0 164 3 (.slice a (F r).length c) (F r).length ((F r).flatMap Hs):=by
 obtain⟨v,h1,h2⟩:=Zhg hr
 obtain⟨a,c,h3,h4⟩:=h _ h2
 exact⟨a,c,h1.trans (congrArg some h3),h4⟩
def Hc(x:Ent):Value:=.agg #[V0 ((Xu x.2.1 0:Nat):Int),V0 ((Xu x.2.1 1:Nat):Int),V0 ((Xu x.2.1 2:Nat):Int),V0 ((Xu x.2.1 3:Nat):Int)]
def Zd5(x:Ent):List (Int×Value):=if Wi x=0 then [(x.1,Hc x)] else []
def Oz(es:List Ent):List (Int×Value):=es.flatMap Zd5
def Fx(x:Ent):List (Int×Value):=if Xo x.2.1=0 then [(x.1,V0 ((Zo x.2.1:Nat):Int))] else []
def Nn(es:List Ent):List (Int×Value):=es.flatMap Fx
theorem Cz{es:List Ent}{i:Nat}(hi:i<es.length):Oz (es.take (i+1))=Oz (es.take i)++Zd5 (es.getD i Zj):=by
 unfold Oz
 rw[List.take_succ_eq_append_getElem hi,List.flatMap_append,show es.getD i Zj=es[i] from by simp[List.getD,hi]]
 simp
theorem Fh{es:List Ent}{i:Nat}(hi:i<es.length):Nn (es.take (i+1))=Nn (es.take i)++Fx (es.getD i Zj):=by
 unfold Nn
 rw[List.take_succ_eq_append_getElem hi,List.flatMap_append,show es.getD i Zj=es[i] from by simp[List.getD,hi]]
 simp
theorem Zg6{es:List Ent}{i:Nat}(hs:es.Pairwise (fun x y=>x.1<y.1))(hi:i<es.length){kv:List (Int×Value)}(h:∀ p∈kv,∃ x∈es.take i,p.1=x.1):Vm kv (es.getD i Zj).1=none:=by
 refine Mc fun m=>?_
 obtain⟨p,hp,e⟩:=List.mem_map.1 m
 obtain⟨x,hx,e2⟩:=h p hp
 obtain⟨j,hj,rfl⟩:=List.mem_take_iff_getElem.1 hx
 have a0:j<i∧j<es.length:=by omega
 have:=List.pairwise_iff_getElem.1 hs j i (by omega) hi a0.1
 rw[show es.getD i Zj=es[i] from by simp[List.getD,hi]] at e
 omega
theorem Zbd{es:List Ent}{i:Nat}(hs:es.Pairwise (fun x y=>x.1<y.1))(hi:i<es.length):Vm (Oz (es.take i)) (es.getD i Zj).1=none:=Zg6 hs hi fun p hp=>by
 obtain⟨x,hx,h⟩:=List.mem_flatMap.1 hp
 unfold Zd5 at h
 split at h
 ·obtain rfl:=List.mem_singleton.1 h;exact⟨x,hx,rfl⟩
 ·cases h
theorem Ia{es:List Ent}{i:Nat}(hs:es.Pairwise (fun x y=>x.1<y.1))(hi:i<es.length):Vm (Nn (es.take i)) (es.getD i Zj).1=none:=Zg6 hs hi fun p hp=>by
 obtain⟨x,hx,h⟩:=List.mem_flatMap.1 hp
 unfold Fx at h
 split at h
 ·obtain rfl:=List.mem_singleton.1 h;exact⟨x,hx,rfl⟩
 ·cases h
theorem Iv{x:Ent}(h:Wi x≠0):Zd5 x=[]:=if_neg h
theorem Zbl{x:Ent}(h:Wi x=0):Zd5 x=[(x.1,Hc x)]:=if_pos h
theorem Zg3{x:Ent}(h:Wi x≠0):Tw x=[((2:Int),x.2.2,Wi x)]:=if_neg h
theorem Zbm{x:Ent}(h:Wi x=0):Tw x=[]:=if_pos h
theorem mapG1_bad{data:Int}{x:Ent}(h:Vj data x.2.1≠0):Ah data x=[((3:Int),x.2.2,Vj data x.2.1)]:=if_neg h
theorem mapG1_ok{data:Int}{x:Ent}(h:Vj data x.2.1=0):Ah data x=[]:=if_pos h
theorem mapM1_bad{data:Int}{x:Ent}(h:Vj data x.2.1≠0):Ou data x=[]:=if_neg h
theorem Zcj{data:Int}{x:Ent}(h:Vj data x.2.1=0):Ou data x=[Zfn x]:=if_pos h
theorem Zdz{x:Ent}(h:Xo x.2.1≠0):Fx x=[]:=if_neg h
theorem Iq{x:Ent}(h:Xo x.2.1=0):Fx x=[(x.1,V0 ((Zo x.2.1:Nat):Int))]:=if_pos h
end Go.Proofs.YtegcamkgeacjfaaGreatDoor
namespace Go.Proofs.YtegcamkgeacjfaaGreatDoor
set_option maxHeartbeats 8000000
set_option maxRecDepth 100000
open Go.RowKit Go.Extern.Stop Go.Stop Go.Extern
set_option linter.unusedVariables false
attribute [local irreducible] wpList wpAnyH Code.wp Oper.wp Go
theorem Cm(kind er:Int)(bl:List Int)(v:Value)(w:World)(hl:bl.length≤40)(hg:Sm w)(hv:Kl w (bl.map some) (some er) v):C0 46 #[V0 kind,v] w (Ret (.agg #[V0 kind,V0 (Kr bl),V0 er]) w):=by
 have h:=Zbk kind (some er) (bl.map some) v w (by rw[List.length_map];omega) hg hv
 rwa [Su,Zav] at h
theorem Tc(kind er:Int)(bl:List Int)(a:O0)(c:Nat)(w:World)(hv:Sl w (.slice a bl.length c) bl.length (bl.map V0)):C0 48 #[V0 kind,.agg #[.slice a bl.length c,V0 er]] w (Ret (.agg #[V0 kind,V0 (Kr bl),V0 er]) w):=ref28_Of kind bl er _ w ⟨_,rfl,hv⟩
end Go.Proofs.YtegcamkgeacjfaaGreatDoor
