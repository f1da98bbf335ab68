/- The document's answer for layer 14: Scan. -/
import Derived.Laws.StructEq
import Derived.Test.YthlakkdgcgkcdaaGreatDoorMg5
namespace Go.Proofs.YthlakkdgcgkcdaaGreatDoor
set_option maxHeartbeats 8000000
set_option maxRecDepth 100000
open Go.RowKit Go.Extern.Stop Go.Stop Go.Extern
set_option linter.unusedVariables false
attribute [local irreducible] wpList wpAnyH Code.wp Oper.wp Go
theorem ref14_Scan(B bm:Nat)(p:Option Addr)(k c:Nat)(l:List UInt8)(root tree fuel:Int)(w:World)(hI:RefI B bm p k c l w)(hfu:fuel≤1000) :
 Calls Tryz.prog 62 #[.pointer (some ⟨bm,0,none⟩),.int .i64 root,.int .i64 tree,.int .i64 fuel] w (Zg1 (Zj l root tree fuel) w):=by
 refine zin 186 Tryz.func62 ?_
 refine xa 2 [.slice none 0 0,.slice none 0 0,.int .i64 0,.int .i64 0,.slice none 0 0] 87 fun b1 W1 n1=>?_
 refine xa 5 [.slice none 0 0,.slice none 0 0,.int .i64 0,.int .i64 0,.slice none 0 0] 87 fun b2 W2 n2=>?_
 have d2_b1:=n2.ne n1.blk
 refine xsv 0 n2.blk [.slice none 0 0,.slice none 0 0,.int .i64 0,.int .i64 0,.slice none 0 0] fun W3 u3 k3=>?_
 have g2:=n2.ge n1.below
 refine xbs 7 1 [.int .i64 root,.int .i64 0,.int .i64 281474976710656,.slice none 0 0,.int .i64 0] 184 fun b4 W4 n4=>?_
 have g4:=n4.ge (u3.below (bln n1.below n2.below) g2)
 have hw0:Cr w.heap.size W4 (some ⟨b4,0,none⟩) 1 [⟨root,0,281474976710656,[],0,none,0⟩]:=Cr.of (Zw (size:=5) (n:=1) n4.blk g4 rfl (by decide)) rfl
 have hI'1:=(((hI.below n1.below).below n2.below).only (Ze.of_upd (T:=[87]) u3 n2.blk (by decide)) (by decide)).below n4.below
 have hB:=bln (u3.below (bln n1.below n2.below) g2) n4.below
 have k1'1:=(u3.blk (n1.blk.below n2.below) (Ne.symm (Ne.symm d2_b1))).below n4.below
 have k3'1:=k3.below n4.below
 refine zl 5 186 (fun zm zkv V=>∃ (s:WS) (ts:List Wt) (pe pb pf:Option Addr) (ce cb cf:Nat) (fv:List Ft) (aw:Option Addr) (cw:Nat),zkv=[(0,.pointer (some ⟨bm,0,none⟩)),(2,.int .i64 tree),(3,.int .i64 fuel),(8,.pointer (some ⟨b1,0,none⟩)),(9,.pointer (some ⟨b2,0,none⟩)),(10,.slice aw ts.length cw)]∧zm=20*(fuel.toNat-s.looked)+ts.length∧Below w.heap.size w V∧Blk V b1 ([.slice none 0 0,.slice none 0 0,.int .i64 0,.int .i64 0,.slice none 0 0]) 87∧Blk V b2 ([.slice pe s.es.length ce,.slice pb s.bs.length cb,.int .i64 s.deep,.int .i64 (↑s.looked:Int),.slice pf fv.length cf]) 87∧V.ownsRow w.heap.size 77 3 (.slice pe s.es.length ce) s.es.length (s.es.flatMap Ko)∧V.ownsRow w.heap.size 3 1 (.slice pb s.bs.length cb) s.bs.length (s.bs.map (Value.int .i64))∧V.ownsRow w.heap.size 43 2 (.slice pf fv.length cf) fv.length (fv.flatMap Za4)∧Cr w.heap.size V aw cw ts∧Yc w.heap.size V (.slice pb s.bs.length cb) (ts.map Zf9++fv.map fltK)∧RefI B bm p k c l V∧WaitOk l tree fuel (Zj l root tree fuel) ts s∧fv.map fltP=s.fs) ⟨ws0,[⟨root,0,281474976710656,[],0,none,0⟩],none,none,none,0,0,0,[],(some ⟨b4,0,none⟩),1,rfl,rfl,hB,k1'1,k3'1,World.ownsRow_nil _ _ _ _,World.ownsRow_nil _ _ _ _,World.ownsRow_nil _ _ _ _,hw0,(fun x hx=>by rw[show x=Zf9 ⟨root,0,281474976710656,[],0,none,0⟩ from List.mem_singleton.1 hx];exact⟨World.ownsRow_nil _ _ _ _,Kr.nil _⟩),hI'1,wait0 l root tree fuel,rfl⟩ ?_
 rintro _ _ W5 ⟨s,ts,pe,pb,pf,ce,cb,cf,fv,aw,cw,rfl,rfl,hB_5,k5_b1,k5_b2,hEn,hBl,hFl,hWt,hKi,hI,hwo,hfv⟩ J5 hJ5 r5
 have hgr:=hwo.grow
 obtain⟨hfe,hfb,hff⟩:=Zb4 l root tree fuel hfu
 have hfl:fv.length=s.fs.length:=by rw[←hfv];simp
 have hg1:=hgr.1
 have hg2:=hgr.2.1
 have hg3:=hgr.2.2
 have hfew:=hwo.few
 refine xid 8 ((↑ts.length:Int)>(0:Int)) (fun hc6=>?_) (fun hc6=>?_)
 ·obtain⟨t,r,htr⟩:∃ t r,ts=t::r:=by
   cases ts with
   | nil=>simp at hc6
   | cons t r=>exact⟨t,r,rfl⟩
  have hwo1:WaitOk l tree fuel (Zj l root tree fuel) (t::r) s:=htr▸hwo
  have hwl:t.way.length≤16:=hwo1.way t List.mem_cons_self
  have htl:ts.length=r.length+1:=by rw[htr];rfl
  have hWs:=Cr.at_ hWt
  have hKt:Yc w.heap.size W5 (.slice pb s.bs.length cb) ((t::r).map Zf9++fv.map fltK):=by rw[←htr];exact hKi
  refine xx 6 _ ts.length 0 5 (Sts.cell (hWs.sts htr) Cc t (k:=0) (i:=0) (by simp) rfl).1 ?_
  refine xlv 0 (Sts.rp (k:=0) (hWs.sts htr) Cc t (by simp) (by decide)) ?_
  refine xa 0 [.int .i64 0,.int .i64 0,.int .i64 0,.slice none 0 0,.int .i64 0] 184 fun b7 W7 n7=>?_
  have g7:=n7.ge hB_5
  refine xsv 0 n7.blk [.int .i64 t.no,.int .i64 t.lo,.int .i64 t.hi,.slice t.wa t.way.length t.wc,.int .i64 t.ft] fun W8 u8 k8=>?_
  refine xsL 5 (fun _ _ _ _ zo zx zy V=>Yg (k:=1) (b:=aw) (n:=ts.length) (c:=cw) (i:=1) (ki:=.i64) 5 zo zx zy rfl (by omega) Tryz.underlying185 (by kernel_rfl) V) ?_
  refine xb 7 4 k8 ?_
  refine xin 3 t.ft (0:Int) (fun hc9=>?_) (fun hc9=>?_)
  ·have hft:=hc9
   refine xd 1 (.t w.heap.size [43,87]) ?_
   have k8'1:=k8.below (Za W8)
   refine xbt (.e [0,2] 3) 3 w.heap.size [43,87] k8'1 ?_
   refine xbt (.e [4] 5) 0 w.heap.size [43,87] k8'1 ?_
   refine xbt (.e [6] 7) 4 w.heap.size [43,87] k8'1 ?_
   refine xm2 0 1 8 ?_ ?_
   ·have k5_b2'1:=(u8.blkT (k5_b2.below n7.below) n7.blk (by decide)).below (Za W8)
    refine xb 0 4 k5_b2'1 ?_
    have hBl'1:=Zb (u8.own2 (Zb hBl n7.below) n7.blk (by decide)) (Za W8)
    have hB'1:=bln (u8.below (bln hB_5 n7.below) g7) (Za W8)
    have hBlA:=hBl'1
    have hszA:=hB'1.size
    refine yc (.o [] 8) (args:=#[.int .i64 t.no,.int .i64 t.ft]) (.t w.heap.size [43,87]) (Ha t.no t.ft _ hft) ?_
    rintro _ W10 ⟨fa,fc,rfl,hb10,hNA⟩
    refine⟨(SF.of_below _ hb10),?_⟩
    have hKt'1:=(((hKt.below n7.below).only (Ze.of_upd (T:=[184]) u8 n7.blk (by decide)) (by decide)).below (Za W8)).below hb10
    refine yc (.o [] 9) (args:=#[.slice t.wa t.way.length t.wc,.agg #[.slice fa 1 fc,.int .i64 t.ft]]) (.t w.heap.size [43,87]) (Qs t.wa t.wc t.way t.ft _ fa fc t.no _ hft (Yc.hd hKt'1).ints (by omega) hNA) ?_
    rintro _ W11 ⟨fa2,fc2,rfl,hb11,hNB⟩
    refine⟨(SF.of_below _ hb11),?_⟩
    have hNp:=hNB.apart hBlA (Nat.le_refl _)
    refine xbs (.o [] 10) 1 [.slice fa2 ((t.way++[t.no]).length) fc2,.int .i64 t.ft] 43 fun b12 W12 n12=>?_
    have hB'2:=bln (bln hB'1 hb10) hb11
    have g12:=n12.ge hB'2
    have hFl'1:=Zb (Zb (Zb (u8.own2 (Zb hFl n7.below) n7.blk (by decide)) (Za W8)) hb10) hb11
    have r12_hFl:=Zu hFl'1 n12
    have hFl'2:=Zb hFl'1 n12.below
    have hB'3:=bln hB'2 n12.below
    refine ybi (.o [] 11) (.t w.heap.size [43,87]) fun _ _ _ _ zJ zQ zo zx zy zK=>Zp (m:=1) (news:=[.slice fa2 ((t.way++[t.no]).length) fc2,.int .i64 t.ft]) (.agg #[.slice none 0 0,.int .i64 0]) 2 32 ((fv++[(Ft.mk (t.way++[t.no]) t.ft fa2 fc2)]).length) (((fv++[(Ft.mk (t.way++[t.no]) t.ft fa2 fc2)]).flatMap Za4)) zo Tryz.underlying85 (by kernel_rfl) rfl (by decide) zx hFl'2 zy (n12.blk.sl 1 1 (by decide) (by decide)) rfl (by simp[Value.oneCell']) (by unfold maxLen;omega) (by omega) hB'3.size (by simp) (by rw[List.flatMap_append];rfl) fun px13 cx13 W13 o13 hg13 hb13=>?_
    refine zK _ _ (Zr hb13 hg13 hFl'2 (by decide)) ?_
    have k5_b2'2:=(((k5_b2'1.below hb10).below hb11).below n12.below).grown hg13 hFl'2 (by decide)
    refine ys (.o [12] 13) k5_b2'2 [.slice pe s.es.length ce,.slice pb s.bs.length cb,.int .i64 s.deep,.int .i64 (↑s.looked:Int),.slice px13 ((fv++[(Ft.mk (t.way++[t.no]) t.ft fa2 fc2)]).length) cx13] (.t w.heap.size [43,87]) fun W14 u14 k14=>⟨(Zi u14 k5_b2'2 g2 (by decide)),?_⟩
    refine xv1 5 10 (show(.slice (Qm aw 1 cw 5) (ts.length-1) (cw-1):Value)=.slice (Qm aw 1 cw 5) r.length (cw-1) from by rw[htr];rfl) ?_
    have hWs'1:=(((((((hWs.below n7.below).updN u8 n7 rfl).below (Za W8)).below hb10).below hb11).below n12.below).only (Ze.of_grown (T:=[43]) hg13 hFl'2 (by decide)) (by decide)).only (Ze.of_upd (T:=[87]) u14 k5_b2'2 (by decide)) (by decide)
    have hKt'2:=(((hKt'1.below hb11).below n12.below).only (Ze.of_grown (T:=[43]) hg13 hFl'2 (by decide)) (by decide)).only (Ze.of_upd (T:=[87]) u14 k5_b2'2 (by decide)) (by decide)
    have hNB'1:=((hNB.below n12.below).only (Ze.of_grown (T:=[43]) hg13 hFl'2 (by decide)) (by decide)).only (Ze.of_upd (T:=[87]) u14 k5_b2'2 (by decide)) (by decide)
    have hB'4:=u14.below (hB'3.trans hb13) g2
    have k5_b1'1:=u14.blk ((((((u8.blkT (k5_b1.below n7.below) n7.blk (by decide)).below (Za W8)).below hb10).below hb11).below n12.below).grown hg13 hFl'2 (by decide)) (Ne.symm (Ne.symm d2_b1))
    have hEn'1:=u14.own2 (Zg (Zb (Zb (Zb (Zb (u8.own2 (Zb hEn n7.below) n7.blk (by decide)) (Za W8)) hb10) hb11) n12.below) hg13 hFl'2 (by decide)) k5_b2'2 (by decide)
    have hBl'2:=u14.own2 (Zg (Zb (Zb (Zb hBl'1 hb10) hb11) n12.below) hg13 hFl'2 (by decide)) k5_b2'2 (by decide)
    have o13'1:=u14.own2 o13 k5_b2'2 (by decide)
    have hI'2:=(((((((hI.below n7.below).only (Ze.of_upd (T:=[184]) u8 n7.blk (by decide)) (by decide)).below (Za W8)).below hb10).below hb11).below n12.below).only (Ze.of_grown (T:=[43]) hg13 hFl'2 (by decide)) (by decide)).only (Ze.of_upd (T:=[87]) u14 k5_b2'2 (by decide)) (by decide)
    refine ze 0 (hJ5 _ _ _ ⟨(Yh t.way [t.no] t.ft s),r,pe,pb,px13,ce,cb,cx13,(fv++[(Ft.mk (t.way++[t.no]) t.ft fa2 fc2)]),(Qm aw 1 cw 5),(cw-1),rfl,rfl,hB'4,k5_b1'1,k14,hEn'1,hBl'2,o13'1,(Bo.tail hWs'1 htr),(Yc.note (f:=(Ft.mk (t.way++[t.no]) t.ft fa2 fc2)) hKt'2 (hNB'1.mono hszA) hNp),hI'2,hwo1.fault hft,Xu hfv⟩ ?_)
    show 20*(fuel.toNat-s.looked)+r.length<20*(fuel.toNat-s.looked)+ts.length
    omega
   have hBl'3:=Zb (u8.own2 (Zb hBl n7.below) n7.blk (by decide)) (Za W8)
   have hB'5:=bln (u8.below (bln hB_5 n7.below) g7) (Za W8)
   have hBlA:=hBl'3
   have hszA:=hB'5.size
   refine yc 0 (args:=#[.int .i64 t.no,.int .i64 t.ft]) (.t w.heap.size [43,87]) (Ha t.no t.ft _ hft) ?_
   rintro _ W15 ⟨fa,fc,rfl,hb15,hNA⟩
   refine⟨(SF.of_below _ hb15),?_⟩
   refine xm2 0 1 9 ?_ ?_
   ·have k5_b2'3:=((u8.blkT (k5_b2.below n7.below) n7.blk (by decide)).below (Za W8)).below hb15
    refine xb 0 4 k5_b2'3 ?_
    have hKt'3:=(((hKt.below n7.below).only (Ze.of_upd (T:=[184]) u8 n7.blk (by decide)) (by decide)).below (Za W8)).below hb15
    refine yc (.o [] 9) (args:=#[.slice t.wa t.way.length t.wc,.agg #[.slice fa 1 fc,.int .i64 t.ft]]) (.t w.heap.size [43,87]) (Qs t.wa t.wc t.way t.ft _ fa fc t.no _ hft (Yc.hd hKt'3).ints (by omega) hNA) ?_
    rintro _ W16 ⟨fa2,fc2,rfl,hb16,hNB⟩
    refine⟨(SF.of_below _ hb16),?_⟩
    have hNp:=hNB.apart hBlA (Nat.le_refl _)
    refine xbs (.o [] 10) 1 [.slice fa2 ((t.way++[t.no]).length) fc2,.int .i64 t.ft] 43 fun b17 W17 n17=>?_
    have hB'6:=bln (bln hB'5 hb15) hb16
    have g17:=n17.ge hB'6
    have hFl'3:=Zb (Zb (Zb (u8.own2 (Zb hFl n7.below) n7.blk (by decide)) (Za W8)) hb15) hb16
    have r17_hFl:=Zu hFl'3 n17
    have hFl'4:=Zb hFl'3 n17.below
    have hB'7:=bln hB'6 n17.below
    refine ybi (.o [] 11) (.t w.heap.size [43,87]) fun _ _ _ _ zJ zQ zo zx zy zK=>Zp (m:=1) (news:=[.slice fa2 ((t.way++[t.no]).length) fc2,.int .i64 t.ft]) (.agg #[.slice none 0 0,.int .i64 0]) 2 32 ((fv++[(Ft.mk (t.way++[t.no]) t.ft fa2 fc2)]).length) (((fv++[(Ft.mk (t.way++[t.no]) t.ft fa2 fc2)]).flatMap Za4)) zo Tryz.underlying85 (by kernel_rfl) rfl (by decide) zx hFl'4 zy (n17.blk.sl 1 1 (by decide) (by decide)) rfl (by simp[Value.oneCell']) (by unfold maxLen;omega) (by omega) hB'7.size (by simp) (by rw[List.flatMap_append];rfl) fun px18 cx18 W18 o18 hg18 hb18=>?_
    refine zK _ _ (Zr hb18 hg18 hFl'4 (by decide)) ?_
    have k5_b2'4:=((k5_b2'3.below hb16).below n17.below).grown hg18 hFl'4 (by decide)
    refine ys (.o [12] 13) k5_b2'4 [.slice pe s.es.length ce,.slice pb s.bs.length cb,.int .i64 s.deep,.int .i64 (↑s.looked:Int),.slice px18 ((fv++[(Ft.mk (t.way++[t.no]) t.ft fa2 fc2)]).length) cx18] (.t w.heap.size [43,87]) fun W19 u19 k19=>⟨(Zi u19 k5_b2'4 g2 (by decide)),?_⟩
    refine xv1 5 10 (show(.slice (Qm aw 1 cw 5) (ts.length-1) (cw-1):Value)=.slice (Qm aw 1 cw 5) r.length (cw-1) from by rw[htr];rfl) ?_
    have hWs'2:=(((((((hWs.below n7.below).updN u8 n7 rfl).below (Za W8)).below hb15).below hb16).below n17.below).only (Ze.of_grown (T:=[43]) hg18 hFl'4 (by decide)) (by decide)).only (Ze.of_upd (T:=[87]) u19 k5_b2'4 (by decide)) (by decide)
    have hKt'4:=(((hKt'3.below hb16).below n17.below).only (Ze.of_grown (T:=[43]) hg18 hFl'4 (by decide)) (by decide)).only (Ze.of_upd (T:=[87]) u19 k5_b2'4 (by decide)) (by decide)
    have hNB'2:=((hNB.below n17.below).only (Ze.of_grown (T:=[43]) hg18 hFl'4 (by decide)) (by decide)).only (Ze.of_upd (T:=[87]) u19 k5_b2'4 (by decide)) (by decide)
    have hB'8:=u19.below (hB'7.trans hb18) g2
    have k5_b1'2:=u19.blk ((((((u8.blkT (k5_b1.below n7.below) n7.blk (by decide)).below (Za W8)).below hb15).below hb16).below n17.below).grown hg18 hFl'4 (by decide)) (Ne.symm (Ne.symm d2_b1))
    have hEn'2:=u19.own2 (Zg (Zb (Zb (Zb (Zb (u8.own2 (Zb hEn n7.below) n7.blk (by decide)) (Za W8)) hb15) hb16) n17.below) hg18 hFl'4 (by decide)) k5_b2'4 (by decide)
    have hBl'4:=u19.own2 (Zg (Zb (Zb (Zb hBl'3 hb15) hb16) n17.below) hg18 hFl'4 (by decide)) k5_b2'4 (by decide)
    have o18'1:=u19.own2 o18 k5_b2'4 (by decide)
    have hI'3:=(((((((hI.below n7.below).only (Ze.of_upd (T:=[184]) u8 n7.blk (by decide)) (by decide)).below (Za W8)).below hb15).below hb16).below n17.below).only (Ze.of_grown (T:=[43]) hg18 hFl'4 (by decide)) (by decide)).only (Ze.of_upd (T:=[87]) u19 k5_b2'4 (by decide)) (by decide)
    refine ze 0 (hJ5 _ _ _ ⟨(Yh t.way [t.no] t.ft s),r,pe,pb,px18,ce,cb,cx18,(fv++[(Ft.mk (t.way++[t.no]) t.ft fa2 fc2)]),(Qm aw 1 cw 5),(cw-1),rfl,rfl,hB'8,k5_b1'2,k19,hEn'2,hBl'4,o18'1,(Bo.tail hWs'2 htr),(Yc.note (f:=(Ft.mk (t.way++[t.no]) t.ft fa2 fc2)) hKt'4 (hNB'2.mono hszA) hNp),hI'3,hwo1.fault hft,Xu hfv⟩ ?_)
    show 20*(fuel.toNat-s.looked)+r.length<20*(fuel.toNat-s.looked)+ts.length
    omega
   have hKt'5:=(((hKt.below n7.below).only (Ze.of_upd (T:=[184]) u8 n7.blk (by decide)) (by decide)).below (Za W8)).below hb15
   refine yc 0 (args:=#[.slice t.wa t.way.length t.wc,.agg #[.slice fa 1 fc,.int .i64 t.ft]]) (.t w.heap.size [43,87]) (Qs t.wa t.wc t.way t.ft _ fa fc t.no _ hft (Yc.hd hKt'5).ints (by omega) hNA) ?_
   rintro _ W20 ⟨fa2,fc2,rfl,hb20,hNB⟩
   refine⟨(SF.of_below _ hb20),?_⟩
   have hNp:=hNB.apart hBlA (Nat.le_refl _)
   refine xm2 0 1 10 ?_ ?_
   ·have k5_b2'5:=(((u8.blkT (k5_b2.below n7.below) n7.blk (by decide)).below (Za W8)).below hb15).below hb20
    refine xb 0 4 k5_b2'5 ?_
    refine xbs (.o [] 10) 1 [.slice fa2 ((t.way++[t.no]).length) fc2,.int .i64 t.ft] 43 fun b21 W21 n21=>?_
    have hB'9:=bln (bln hB'5 hb15) hb20
    have g21:=n21.ge hB'9
    have hFl'5:=Zb (Zb (Zb (u8.own2 (Zb hFl n7.below) n7.blk (by decide)) (Za W8)) hb15) hb20
    have r21_hFl:=Zu hFl'5 n21
    have hFl'6:=Zb hFl'5 n21.below
    have hB'10:=bln hB'9 n21.below
    refine ybi (.o [] 11) (.t w.heap.size [43,87]) fun _ _ _ _ zJ zQ zo zx zy zK=>Zp (m:=1) (news:=[.slice fa2 ((t.way++[t.no]).length) fc2,.int .i64 t.ft]) (.agg #[.slice none 0 0,.int .i64 0]) 2 32 ((fv++[(Ft.mk (t.way++[t.no]) t.ft fa2 fc2)]).length) (((fv++[(Ft.mk (t.way++[t.no]) t.ft fa2 fc2)]).flatMap Za4)) zo Tryz.underlying85 (by kernel_rfl) rfl (by decide) zx hFl'6 zy (n21.blk.sl 1 1 (by decide) (by decide)) rfl (by simp[Value.oneCell']) (by unfold maxLen;omega) (by omega) hB'10.size (by simp) (by rw[List.flatMap_append];rfl) fun px22 cx22 W22 o22 hg22 hb22=>?_
    refine zK _ _ (Zr hb22 hg22 hFl'6 (by decide)) ?_
    have k5_b2'6:=(k5_b2'5.below n21.below).grown hg22 hFl'6 (by decide)
    refine ys (.o [12] 13) k5_b2'6 [.slice pe s.es.length ce,.slice pb s.bs.length cb,.int .i64 s.deep,.int .i64 (↑s.looked:Int),.slice px22 ((fv++[(Ft.mk (t.way++[t.no]) t.ft fa2 fc2)]).length) cx22] (.t w.heap.size [43,87]) fun W23 u23 k23=>⟨(Zi u23 k5_b2'6 g2 (by decide)),?_⟩
    refine xv1 5 10 (show(.slice (Qm aw 1 cw 5) (ts.length-1) (cw-1):Value)=.slice (Qm aw 1 cw 5) r.length (cw-1) from by rw[htr];rfl) ?_
    have hWs'3:=(((((((hWs.below n7.below).updN u8 n7 rfl).below (Za W8)).below hb15).below hb20).below n21.below).only (Ze.of_grown (T:=[43]) hg22 hFl'6 (by decide)) (by decide)).only (Ze.of_upd (T:=[87]) u23 k5_b2'6 (by decide)) (by decide)
    have hKt'6:=(((hKt'5.below hb20).below n21.below).only (Ze.of_grown (T:=[43]) hg22 hFl'6 (by decide)) (by decide)).only (Ze.of_upd (T:=[87]) u23 k5_b2'6 (by decide)) (by decide)
    have hNB'3:=((hNB.below n21.below).only (Ze.of_grown (T:=[43]) hg22 hFl'6 (by decide)) (by decide)).only (Ze.of_upd (T:=[87]) u23 k5_b2'6 (by decide)) (by decide)
    have hB'11:=u23.below (hB'10.trans hb22) g2
    have k5_b1'3:=u23.blk ((((((u8.blkT (k5_b1.below n7.below) n7.blk (by decide)).below (Za W8)).below hb15).below hb20).below n21.below).grown hg22 hFl'6 (by decide)) (Ne.symm (Ne.symm d2_b1))
    have hEn'3:=u23.own2 (Zg (Zb (Zb (Zb (Zb (u8.own2 (Zb hEn n7.below) n7.blk (by decide)) (Za W8)) hb15) hb20) n21.below) hg22 hFl'6 (by decide)) k5_b2'6 (by decide)
    have hBl'5:=u23.own2 (Zg (Zb (Zb (Zb hBl'3 hb15) hb20) n21.below) hg22 hFl'6 (by decide)) k5_b2'6 (by decide)
    have o22'1:=u23.own2 o22 k5_b2'6 (by decide)
    have hI'4:=(((((((hI.below n7.below).only (Ze.of_upd (T:=[184]) u8 n7.blk (by decide)) (by decide)).below (Za W8)).below hb15).below hb20).below n21.below).only (Ze.of_grown (T:=[43]) hg22 hFl'6 (by decide)) (by decide)).only (Ze.of_upd (T:=[87]) u23 k5_b2'6 (by decide)) (by decide)
    refine ze 0 (hJ5 _ _ _ ⟨(Yh t.way [t.no] t.ft s),r,pe,pb,px22,ce,cb,cx22,(fv++[(Ft.mk (t.way++[t.no]) t.ft fa2 fc2)]),(Qm aw 1 cw 5),(cw-1),rfl,rfl,hB'11,k5_b1'3,k23,hEn'3,hBl'5,o22'1,(Bo.tail hWs'3 htr),(Yc.note (f:=(Ft.mk (t.way++[t.no]) t.ft fa2 fc2)) hKt'6 (hNB'3.mono hszA) hNp),hI'4,hwo1.fault hft,Xu hfv⟩ ?_)
    show 20*(fuel.toNat-s.looked)+r.length<20*(fuel.toNat-s.looked)+ts.length
    omega
   refine xbs 0 1 [.slice fa2 ((t.way++[t.no]).length) fc2,.int .i64 t.ft] 43 fun b24 W24 n24=>?_
   have hB'12:=bln (bln hB'5 hb15) hb20
   have g24:=n24.ge hB'12
   have hFl'7:=Zb (Zb (Zb (u8.own2 (Zb hFl n7.below) n7.blk (by decide)) (Za W8)) hb15) hb20
   have r24_hFl:=Zu hFl'7 n24
   have k5_b2'7:=((((u8.blkT (k5_b2.below n7.below) n7.blk (by decide)).below (Za W8)).below hb15).below hb20).below n24.below
   refine xb (.o [] 1) 4 k5_b2'7 ?_
   have hFl'8:=Zb hFl'7 n24.below
   have hB'13:=bln hB'12 n24.below
   refine ybi (.o [] 11) (.t w.heap.size [43,87]) fun _ _ _ _ zJ zQ zo zx zy zK=>Zp (m:=1) (news:=[.slice fa2 ((t.way++[t.no]).length) fc2,.int .i64 t.ft]) (.agg #[.slice none 0 0,.int .i64 0]) 2 32 ((fv++[(Ft.mk (t.way++[t.no]) t.ft fa2 fc2)]).length) (((fv++[(Ft.mk (t.way++[t.no]) t.ft fa2 fc2)]).flatMap Za4)) zo Tryz.underlying85 (by kernel_rfl) rfl (by decide) zx hFl'8 zy (n24.blk.sl 1 1 (by decide) (by decide)) rfl (by simp[Value.oneCell']) (by unfold maxLen;omega) (by omega) hB'13.size (by simp) (by rw[List.flatMap_append];rfl) fun px25 cx25 W25 o25 hg25 hb25=>?_
   refine zK _ _ (Zr hb25 hg25 hFl'8 (by decide)) ?_
   have k5_b2'8:=k5_b2'7.grown hg25 hFl'8 (by decide)
   refine ys (.o [12] 13) k5_b2'8 [.slice pe s.es.length ce,.slice pb s.bs.length cb,.int .i64 s.deep,.int .i64 (↑s.looked:Int),.slice px25 ((fv++[(Ft.mk (t.way++[t.no]) t.ft fa2 fc2)]).length) cx25] (.t w.heap.size [43,87]) fun W26 u26 k26=>⟨(Zi u26 k5_b2'8 g2 (by decide)),?_⟩
   refine xv1 5 10 (show(.slice (Qm aw 1 cw 5) (ts.length-1) (cw-1):Value)=.slice (Qm aw 1 cw 5) r.length (cw-1) from by rw[htr];rfl) ?_
   have hWs'4:=(((((((hWs.below n7.below).updN u8 n7 rfl).below (Za W8)).below hb15).below hb20).below n24.below).only (Ze.of_grown (T:=[43]) hg25 hFl'8 (by decide)) (by decide)).only (Ze.of_upd (T:=[87]) u26 k5_b2'8 (by decide)) (by decide)
   have hKt'7:=(((hKt'5.below hb20).below n24.below).only (Ze.of_grown (T:=[43]) hg25 hFl'8 (by decide)) (by decide)).only (Ze.of_upd (T:=[87]) u26 k5_b2'8 (by decide)) (by decide)
   have hNB'4:=((hNB.below n24.below).only (Ze.of_grown (T:=[43]) hg25 hFl'8 (by decide)) (by decide)).only (Ze.of_upd (T:=[87]) u26 k5_b2'8 (by decide)) (by decide)
   have hB'14:=u26.below (hB'13.trans hb25) g2
   have k5_b1'4:=u26.blk ((((((u8.blkT (k5_b1.below n7.below) n7.blk (by decide)).below (Za W8)).below hb15).below hb20).below n24.below).grown hg25 hFl'8 (by decide)) (Ne.symm (Ne.symm d2_b1))
   have hEn'4:=u26.own2 (Zg (Zb (Zb (Zb (Zb (u8.own2 (Zb hEn n7.below) n7.blk (by decide)) (Za W8)) hb15) hb20) n24.below) hg25 hFl'8 (by decide)) k5_b2'8 (by decide)
   have hBl'6:=u26.own2 (Zg (Zb (Zb (Zb hBl'3 hb15) hb20) n24.below) hg25 hFl'8 (by decide)) k5_b2'8 (by decide)
   have o25'1:=u26.own2 o25 k5_b2'8 (by decide)
   have hI'5:=(((((((hI.below n7.below).only (Ze.of_upd (T:=[184]) u8 n7.blk (by decide)) (by decide)).below (Za W8)).below hb15).below hb20).below n24.below).only (Ze.of_grown (T:=[43]) hg25 hFl'8 (by decide)) (by decide)).only (Ze.of_upd (T:=[87]) u26 k5_b2'8 (by decide)) (by decide)
   refine ze 0 (hJ5 _ _ _ ⟨(Yh t.way [t.no] t.ft s),r,pe,pb,px25,ce,cb,cx25,(fv++[(Ft.mk (t.way++[t.no]) t.ft fa2 fc2)]),(Qm aw 1 cw 5),(cw-1),rfl,rfl,hB'14,k5_b1'4,k26,hEn'4,hBl'6,o25'1,(Bo.tail hWs'4 htr),(Yc.note (f:=(Ft.mk (t.way++[t.no]) t.ft fa2 fc2)) hKt'7 (hNB'4.mono hszA) hNp),hI'5,hwo1.fault hft,Xu hfv⟩ ?_)
   show 20*(fuel.toNat-s.looked)+r.length<20*(fuel.toNat-s.looked)+ts.length
   omega
  have hft:=hc9
  have k5_b2'9:=u8.blkT (k5_b2.below n7.below) n7.blk (by decide)
  refine xb 6 3 k5_b2'9 ?_
  refine xid 4 ((↑s.looked:Int)≥fuel) (fun hc27=>?_) (fun hc27=>?_)
  ·have hfs:fuel≤s.looked:=by omega
   refine xd 1 (.t w.heap.size [43,87]) ?_
   have k8'2:=k8.below (Za W8)
   refine xbt (.e [0,2] 3) 3 w.heap.size [43,87] k8'2 ?_
   refine xbt (.e [4] 5) 0 w.heap.size [43,87] k8'2 ?_
   refine xm2 0 1 6 ?_ ?_
   ·have k5_b2'10:=k5_b2'9.below (Za W8)
    refine xb 0 4 k5_b2'10 ?_
    have hBl'7:=Zb (u8.own2 (Zb hBl n7.below) n7.blk (by decide)) (Za W8)
    have hB'15:=bln (u8.below (bln hB_5 n7.below) g7) (Za W8)
    have hBlA:=hBl'7
    have hszA:=hB'15.size
    refine yc (.o [] 6) (args:=#[.int .i64 t.no,.int .i64 12]) (.t w.heap.size [43,87]) (Ha t.no 12 _ (by decide)) ?_
    rintro _ W28 ⟨fa,fc,rfl,hb28,hNA⟩
    refine⟨(SF.of_below _ hb28),?_⟩
    have hKt'8:=(((hKt.below n7.below).only (Ze.of_upd (T:=[184]) u8 n7.blk (by decide)) (by decide)).below (Za W8)).below hb28
    refine yc (.o [] 7) (args:=#[.slice t.wa t.way.length t.wc,.agg #[.slice fa 1 fc,.int .i64 12]]) (.t w.heap.size [43,87]) (Qs t.wa t.wc t.way 12 _ fa fc t.no _ (by decide) (Yc.hd hKt'8).ints (by omega) hNA) ?_
    rintro _ W29 ⟨fa2,fc2,rfl,hb29,hNB⟩
    refine⟨(SF.of_below _ hb29),?_⟩
    have hNp:=hNB.apart hBlA (Nat.le_refl _)
    refine xbs (.o [] 8) 1 [.slice fa2 ((t.way++[t.no]).length) fc2,.int .i64 12] 43 fun b30 W30 n30=>?_
    have hB'16:=bln (bln hB'15 hb28) hb29
    have g30:=n30.ge hB'16
    have hFl'9:=Zb (Zb (Zb (u8.own2 (Zb hFl n7.below) n7.blk (by decide)) (Za W8)) hb28) hb29
    have r30_hFl:=Zu hFl'9 n30
    have hFl'10:=Zb hFl'9 n30.below
    have hB'17:=bln hB'16 n30.below
    refine ybi (.o [] 9) (.t w.heap.size [43,87]) fun _ _ _ _ zJ zQ zo zx zy zK=>Zp (m:=1) (news:=[.slice fa2 ((t.way++[t.no]).length) fc2,.int .i64 12]) (.agg #[.slice none 0 0,.int .i64 0]) 2 32 ((fv++[(Ft.mk (t.way++[t.no]) 12 fa2 fc2)]).length) (((fv++[(Ft.mk (t.way++[t.no]) 12 fa2 fc2)]).flatMap Za4)) zo Tryz.underlying85 (by kernel_rfl) rfl (by decide) zx hFl'10 zy (n30.blk.sl 1 1 (by decide) (by decide)) rfl (by simp[Value.oneCell']) (by unfold maxLen;omega) (by omega) hB'17.size (by simp) (by rw[List.flatMap_append];rfl) fun px31 cx31 W31 o31 hg31 hb31=>?_
    refine zK _ _ (Zr hb31 hg31 hFl'10 (by decide)) ?_
    have k5_b2'11:=(((k5_b2'10.below hb28).below hb29).below n30.below).grown hg31 hFl'10 (by decide)
    refine ys (.o [10] 11) k5_b2'11 [.slice pe s.es.length ce,.slice pb s.bs.length cb,.int .i64 s.deep,.int .i64 (↑s.looked:Int),.slice px31 ((fv++[(Ft.mk (t.way++[t.no]) 12 fa2 fc2)]).length) cx31] (.t w.heap.size [43,87]) fun W32 u32 k32=>⟨(Zi u32 k5_b2'11 g2 (by decide)),?_⟩
    refine xlv 4 k32.rp ?_
    have k5_b1'5:=u32.blk ((((((u8.blkT (k5_b1.below n7.below) n7.blk (by decide)).below (Za W8)).below hb28).below hb29).below n30.below).grown hg31 hFl'10 (by decide)) (Ne.symm (Ne.symm d2_b1))
    refine xsv 0 k5_b1'5 [.slice pe s.es.length ce,.slice pb s.bs.length cb,.int .i64 s.deep,.int .i64 (↑s.looked:Int),.slice px31 ((fv++[(Ft.mk (t.way++[t.no]) 12 fa2 fc2)]).length) cx31] fun W33 u33 k33=>?_
    have g1:=n1.ge (Below.refl w.heap.size _)
    have hB'18:=u33.below (u32.below (hB'17.trans hb31) g2) g1
    have hEn'5:=u33.own2 (u32.own2 (Zg (Zb (Zb (Zb (Zb (u8.own2 (Zb hEn n7.below) n7.blk (by decide)) (Za W8)) hb28) hb29) n30.below) hg31 hFl'10 (by decide)) k5_b2'11 (by decide)) k5_b1'5 (by decide)
    have hBl'8:=u33.own2 (u32.own2 (Zg (Zb (Zb (Zb hBl'7 hb28) hb29) n30.below) hg31 hFl'10 (by decide)) k5_b2'11 (by decide)) k5_b1'5 (by decide)
    have o31'1:=u33.own2 (u32.own2 o31 k5_b2'11 (by decide)) k5_b1'5 (by decide)
    have hKt'9:=((((hKt'8.below hb29).below n30.below).only (Ze.of_grown (T:=[43]) hg31 hFl'10 (by decide)) (by decide)).only (Ze.of_upd (T:=[87]) u32 k5_b2'11 (by decide)) (by decide)).only (Ze.of_upd (T:=[87]) u33 k5_b1'5 (by decide)) (by decide)
    have hNB'5:=(((hNB.below n30.below).only (Ze.of_grown (T:=[43]) hg31 hFl'10 (by decide)) (by decide)).only (Ze.of_upd (T:=[87]) u32 k5_b2'11 (by decide)) (by decide)).only (Ze.of_upd (T:=[87]) u33 k5_b1'5 (by decide)) (by decide)
    refine xec 8 k33 (.agg #[.slice pe s.es.length ce,.slice pb s.bs.length cb,.int .i64 s.deep,.int .i64 (↑s.looked:Int),.slice px31 ((fv++[(Ft.mk (t.way++[t.no]) 12 fa2 fc2)]).length) cx31]) ?_
    rw[hwo1.fuel hft hfs]
    exact⟨pe,pb,_,ce,cb,_,fv++[(Ft.mk (t.way++[t.no]) 12 fa2 fc2)],rfl,hB'18,hEn'5,hBl'8,o31'1,Xu hfv,(Yc.note (f:=(Ft.mk (t.way++[t.no]) 12 fa2 fc2)) hKt'9 (hNB'5.mono hszA) hNp).sub (fun x hx=>List.mem_append.2 (.inr hx))⟩
   have hBl'9:=Zb (u8.own2 (Zb hBl n7.below) n7.blk (by decide)) (Za W8)
   have hB'19:=bln (u8.below (bln hB_5 n7.below) g7) (Za W8)
   have hBlA:=hBl'9
   have hszA:=hB'19.size
   refine yc 0 (args:=#[.int .i64 t.no,.int .i64 12]) (.t w.heap.size [43,87]) (Ha t.no 12 _ (by decide)) ?_
   rintro _ W34 ⟨fa,fc,rfl,hb34,hNA⟩
   refine⟨(SF.of_below _ hb34),?_⟩
   refine xm2 0 1 7 ?_ ?_
   ·have k5_b2'12:=(k5_b2'9.below (Za W8)).below hb34
    refine xb 0 4 k5_b2'12 ?_
    have hKt'10:=(((hKt.below n7.below).only (Ze.of_upd (T:=[184]) u8 n7.blk (by decide)) (by decide)).below (Za W8)).below hb34
    refine yc (.o [] 7) (args:=#[.slice t.wa t.way.length t.wc,.agg #[.slice fa 1 fc,.int .i64 12]]) (.t w.heap.size [43,87]) (Qs t.wa t.wc t.way 12 _ fa fc t.no _ (by decide) (Yc.hd hKt'10).ints (by omega) hNA) ?_
    rintro _ W35 ⟨fa2,fc2,rfl,hb35,hNB⟩
    refine⟨(SF.of_below _ hb35),?_⟩
    have hNp:=hNB.apart hBlA (Nat.le_refl _)
    refine xbs (.o [] 8) 1 [.slice fa2 ((t.way++[t.no]).length) fc2,.int .i64 12] 43 fun b36 W36 n36=>?_
    have hB'20:=bln (bln hB'19 hb34) hb35
    have g36:=n36.ge hB'20
    have hFl'11:=Zb (Zb (Zb (u8.own2 (Zb hFl n7.below) n7.blk (by decide)) (Za W8)) hb34) hb35
    have r36_hFl:=Zu hFl'11 n36
    have hFl'12:=Zb hFl'11 n36.below
    have hB'21:=bln hB'20 n36.below
    refine ybi (.o [] 9) (.t w.heap.size [43,87]) fun _ _ _ _ zJ zQ zo zx zy zK=>Zp (m:=1) (news:=[.slice fa2 ((t.way++[t.no]).length) fc2,.int .i64 12]) (.agg #[.slice none 0 0,.int .i64 0]) 2 32 ((fv++[(Ft.mk (t.way++[t.no]) 12 fa2 fc2)]).length) (((fv++[(Ft.mk (t.way++[t.no]) 12 fa2 fc2)]).flatMap Za4)) zo Tryz.underlying85 (by kernel_rfl) rfl (by decide) zx hFl'12 zy (n36.blk.sl 1 1 (by decide) (by decide)) rfl (by simp[Value.oneCell']) (by unfold maxLen;omega) (by omega) hB'21.size (by simp) (by rw[List.flatMap_append];rfl) fun px37 cx37 W37 o37 hg37 hb37=>?_
    refine zK _ _ (Zr hb37 hg37 hFl'12 (by decide)) ?_
    have k5_b2'13:=((k5_b2'12.below hb35).below n36.below).grown hg37 hFl'12 (by decide)
    refine ys (.o [10] 11) k5_b2'13 [.slice pe s.es.length ce,.slice pb s.bs.length cb,.int .i64 s.deep,.int .i64 (↑s.looked:Int),.slice px37 ((fv++[(Ft.mk (t.way++[t.no]) 12 fa2 fc2)]).length) cx37] (.t w.heap.size [43,87]) fun W38 u38 k38=>⟨(Zi u38 k5_b2'13 g2 (by decide)),?_⟩
    refine xlv 4 k38.rp ?_
    have k5_b1'6:=u38.blk ((((((u8.blkT (k5_b1.below n7.below) n7.blk (by decide)).below (Za W8)).below hb34).below hb35).below n36.below).grown hg37 hFl'12 (by decide)) (Ne.symm (Ne.symm d2_b1))
    refine xsv 0 k5_b1'6 [.slice pe s.es.length ce,.slice pb s.bs.length cb,.int .i64 s.deep,.int .i64 (↑s.looked:Int),.slice px37 ((fv++[(Ft.mk (t.way++[t.no]) 12 fa2 fc2)]).length) cx37] fun W39 u39 k39=>?_
    have g1:=n1.ge (Below.refl w.heap.size _)
    have hB'22:=u39.below (u38.below (hB'21.trans hb37) g2) g1
    have hEn'6:=u39.own2 (u38.own2 (Zg (Zb (Zb (Zb (Zb (u8.own2 (Zb hEn n7.below) n7.blk (by decide)) (Za W8)) hb34) hb35) n36.below) hg37 hFl'12 (by decide)) k5_b2'13 (by decide)) k5_b1'6 (by decide)
    have hBl'10:=u39.own2 (u38.own2 (Zg (Zb (Zb (Zb hBl'9 hb34) hb35) n36.below) hg37 hFl'12 (by decide)) k5_b2'13 (by decide)) k5_b1'6 (by decide)
    have o37'1:=u39.own2 (u38.own2 o37 k5_b2'13 (by decide)) k5_b1'6 (by decide)
    have hKt'11:=((((hKt'10.below hb35).below n36.below).only (Ze.of_grown (T:=[43]) hg37 hFl'12 (by decide)) (by decide)).only (Ze.of_upd (T:=[87]) u38 k5_b2'13 (by decide)) (by decide)).only (Ze.of_upd (T:=[87]) u39 k5_b1'6 (by decide)) (by decide)
    have hNB'6:=(((hNB.below n36.below).only (Ze.of_grown (T:=[43]) hg37 hFl'12 (by decide)) (by decide)).only (Ze.of_upd (T:=[87]) u38 k5_b2'13 (by decide)) (by decide)).only (Ze.of_upd (T:=[87]) u39 k5_b1'6 (by decide)) (by decide)
    refine xec 8 k39 (.agg #[.slice pe s.es.length ce,.slice pb s.bs.length cb,.int .i64 s.deep,.int .i64 (↑s.looked:Int),.slice px37 ((fv++[(Ft.mk (t.way++[t.no]) 12 fa2 fc2)]).length) cx37]) ?_
    rw[hwo1.fuel hft hfs]
    exact⟨pe,pb,_,ce,cb,_,fv++[(Ft.mk (t.way++[t.no]) 12 fa2 fc2)],rfl,hB'22,hEn'6,hBl'10,o37'1,Xu hfv,(Yc.note (f:=(Ft.mk (t.way++[t.no]) 12 fa2 fc2)) hKt'11 (hNB'6.mono hszA) hNp).sub (fun x hx=>List.mem_append.2 (.inr hx))⟩
   have hKt'12:=(((hKt.below n7.below).only (Ze.of_upd (T:=[184]) u8 n7.blk (by decide)) (by decide)).below (Za W8)).below hb34
   refine yc 0 (args:=#[.slice t.wa t.way.length t.wc,.agg #[.slice fa 1 fc,.int .i64 12]]) (.t w.heap.size [43,87]) (Qs t.wa t.wc t.way 12 _ fa fc t.no _ (by decide) (Yc.hd hKt'12).ints (by omega) hNA) ?_
   rintro _ W40 ⟨fa2,fc2,rfl,hb40,hNB⟩
   refine⟨(SF.of_below _ hb40),?_⟩
   have hNp:=hNB.apart hBlA (Nat.le_refl _)
   refine xm2 0 1 8 ?_ ?_
   ·have k5_b2'14:=((k5_b2'9.below (Za W8)).below hb34).below hb40
    refine xb 0 4 k5_b2'14 ?_
    refine xbs (.o [] 8) 1 [.slice fa2 ((t.way++[t.no]).length) fc2,.int .i64 12] 43 fun b41 W41 n41=>?_
    have hB'23:=bln (bln hB'19 hb34) hb40
    have g41:=n41.ge hB'23
    have hFl'13:=Zb (Zb (Zb (u8.own2 (Zb hFl n7.below) n7.blk (by decide)) (Za W8)) hb34) hb40
    have r41_hFl:=Zu hFl'13 n41
    have hFl'14:=Zb hFl'13 n41.below
    have hB'24:=bln hB'23 n41.below
    refine ybi (.o [] 9) (.t w.heap.size [43,87]) fun _ _ _ _ zJ zQ zo zx zy zK=>Zp (m:=1) (news:=[.slice fa2 ((t.way++[t.no]).length) fc2,.int .i64 12]) (.agg #[.slice none 0 0,.int .i64 0]) 2 32 ((fv++[(Ft.mk (t.way++[t.no]) 12 fa2 fc2)]).length) (((fv++[(Ft.mk (t.way++[t.no]) 12 fa2 fc2)]).flatMap Za4)) zo Tryz.underlying85 (by kernel_rfl) rfl (by decide) zx hFl'14 zy (n41.blk.sl 1 1 (by decide) (by decide)) rfl (by simp[Value.oneCell']) (by unfold maxLen;omega) (by omega) hB'24.size (by simp) (by rw[List.flatMap_append];rfl) fun px42 cx42 W42 o42 hg42 hb42=>?_
    refine zK _ _ (Zr hb42 hg42 hFl'14 (by decide)) ?_
    have k5_b2'15:=(k5_b2'14.below n41.below).grown hg42 hFl'14 (by decide)
    refine ys (.o [10] 11) k5_b2'15 [.slice pe s.es.length ce,.slice pb s.bs.length cb,.int .i64 s.deep,.int .i64 (↑s.looked:Int),.slice px42 ((fv++[(Ft.mk (t.way++[t.no]) 12 fa2 fc2)]).length) cx42] (.t w.heap.size [43,87]) fun W43 u43 k43=>⟨(Zi u43 k5_b2'15 g2 (by decide)),?_⟩
    refine xlv 4 k43.rp ?_
    have k5_b1'7:=u43.blk ((((((u8.blkT (k5_b1.below n7.below) n7.blk (by decide)).below (Za W8)).below hb34).below hb40).below n41.below).grown hg42 hFl'14 (by decide)) (Ne.symm (Ne.symm d2_b1))
    refine xsv 0 k5_b1'7 [.slice pe s.es.length ce,.slice pb s.bs.length cb,.int .i64 s.deep,.int .i64 (↑s.looked:Int),.slice px42 ((fv++[(Ft.mk (t.way++[t.no]) 12 fa2 fc2)]).length) cx42] fun W44 u44 k44=>?_
    have g1:=n1.ge (Below.refl w.heap.size _)
    have hB'25:=u44.below (u43.below (hB'24.trans hb42) g2) g1
    have hEn'7:=u44.own2 (u43.own2 (Zg (Zb (Zb (Zb (Zb (u8.own2 (Zb hEn n7.below) n7.blk (by decide)) (Za W8)) hb34) hb40) n41.below) hg42 hFl'14 (by decide)) k5_b2'15 (by decide)) k5_b1'7 (by decide)
    have hBl'11:=u44.own2 (u43.own2 (Zg (Zb (Zb (Zb hBl'9 hb34) hb40) n41.below) hg42 hFl'14 (by decide)) k5_b2'15 (by decide)) k5_b1'7 (by decide)
    have o42'1:=u44.own2 (u43.own2 o42 k5_b2'15 (by decide)) k5_b1'7 (by decide)
    have hKt'13:=((((hKt'12.below hb40).below n41.below).only (Ze.of_grown (T:=[43]) hg42 hFl'14 (by decide)) (by decide)).only (Ze.of_upd (T:=[87]) u43 k5_b2'15 (by decide)) (by decide)).only (Ze.of_upd (T:=[87]) u44 k5_b1'7 (by decide)) (by decide)
    have hNB'7:=(((hNB.below n41.below).only (Ze.of_grown (T:=[43]) hg42 hFl'14 (by decide)) (by decide)).only (Ze.of_upd (T:=[87]) u43 k5_b2'15 (by decide)) (by decide)).only (Ze.of_upd (T:=[87]) u44 k5_b1'7 (by decide)) (by decide)
    refine xec 8 k44 (.agg #[.slice pe s.es.length ce,.slice pb s.bs.length cb,.int .i64 s.deep,.int .i64 (↑s.looked:Int),.slice px42 ((fv++[(Ft.mk (t.way++[t.no]) 12 fa2 fc2)]).length) cx42]) ?_
    rw[hwo1.fuel hft hfs]
    exact⟨pe,pb,_,ce,cb,_,fv++[(Ft.mk (t.way++[t.no]) 12 fa2 fc2)],rfl,hB'25,hEn'7,hBl'11,o42'1,Xu hfv,(Yc.note (f:=(Ft.mk (t.way++[t.no]) 12 fa2 fc2)) hKt'13 (hNB'7.mono hszA) hNp).sub (fun x hx=>List.mem_append.2 (.inr hx))⟩
   refine xbs 0 1 [.slice fa2 ((t.way++[t.no]).length) fc2,.int .i64 12] 43 fun b45 W45 n45=>?_
   have hB'26:=bln (bln hB'19 hb34) hb40
   have g45:=n45.ge hB'26
   have hFl'15:=Zb (Zb (Zb (u8.own2 (Zb hFl n7.below) n7.blk (by decide)) (Za W8)) hb34) hb40
   have r45_hFl:=Zu hFl'15 n45
   have k5_b2'16:=(((k5_b2'9.below (Za W8)).below hb34).below hb40).below n45.below
   refine xb (.o [] 1) 4 k5_b2'16 ?_
   have hFl'16:=Zb hFl'15 n45.below
   have hB'27:=bln hB'26 n45.below
   refine ybi (.o [] 9) (.t w.heap.size [43,87]) fun _ _ _ _ zJ zQ zo zx zy zK=>Zp (m:=1) (news:=[.slice fa2 ((t.way++[t.no]).length) fc2,.int .i64 12]) (.agg #[.slice none 0 0,.int .i64 0]) 2 32 ((fv++[(Ft.mk (t.way++[t.no]) 12 fa2 fc2)]).length) (((fv++[(Ft.mk (t.way++[t.no]) 12 fa2 fc2)]).flatMap Za4)) zo Tryz.underlying85 (by kernel_rfl) rfl (by decide) zx hFl'16 zy (n45.blk.sl 1 1 (by decide) (by decide)) rfl (by simp[Value.oneCell']) (by unfold maxLen;omega) (by omega) hB'27.size (by simp) (by rw[List.flatMap_append];rfl) fun px46 cx46 W46 o46 hg46 hb46=>?_
   refine zK _ _ (Zr hb46 hg46 hFl'16 (by decide)) ?_
   have k5_b2'17:=k5_b2'16.grown hg46 hFl'16 (by decide)
   refine ys (.o [10] 11) k5_b2'17 [.slice pe s.es.length ce,.slice pb s.bs.length cb,.int .i64 s.deep,.int .i64 (↑s.looked:Int),.slice px46 ((fv++[(Ft.mk (t.way++[t.no]) 12 fa2 fc2)]).length) cx46] (.t w.heap.size [43,87]) fun W47 u47 k47=>⟨(Zi u47 k5_b2'17 g2 (by decide)),?_⟩
   refine xlv 4 k47.rp ?_
   have k5_b1'8:=u47.blk ((((((u8.blkT (k5_b1.below n7.below) n7.blk (by decide)).below (Za W8)).below hb34).below hb40).below n45.below).grown hg46 hFl'16 (by decide)) (Ne.symm (Ne.symm d2_b1))
   refine xsv 0 k5_b1'8 [.slice pe s.es.length ce,.slice pb s.bs.length cb,.int .i64 s.deep,.int .i64 (↑s.looked:Int),.slice px46 ((fv++[(Ft.mk (t.way++[t.no]) 12 fa2 fc2)]).length) cx46] fun W48 u48 k48=>?_
   have g1:=n1.ge (Below.refl w.heap.size _)
   have hB'28:=u48.below (u47.below (hB'27.trans hb46) g2) g1
   have hEn'8:=u48.own2 (u47.own2 (Zg (Zb (Zb (Zb (Zb (u8.own2 (Zb hEn n7.below) n7.blk (by decide)) (Za W8)) hb34) hb40) n45.below) hg46 hFl'16 (by decide)) k5_b2'17 (by decide)) k5_b1'8 (by decide)
   have hBl'12:=u48.own2 (u47.own2 (Zg (Zb (Zb (Zb hBl'9 hb34) hb40) n45.below) hg46 hFl'16 (by decide)) k5_b2'17 (by decide)) k5_b1'8 (by decide)
   have o46'1:=u48.own2 (u47.own2 o46 k5_b2'17 (by decide)) k5_b1'8 (by decide)
   have hKt'14:=((((hKt'12.below hb40).below n45.below).only (Ze.of_grown (T:=[43]) hg46 hFl'16 (by decide)) (by decide)).only (Ze.of_upd (T:=[87]) u47 k5_b2'17 (by decide)) (by decide)).only (Ze.of_upd (T:=[87]) u48 k5_b1'8 (by decide)) (by decide)
   have hNB'8:=(((hNB.below n45.below).only (Ze.of_grown (T:=[43]) hg46 hFl'16 (by decide)) (by decide)).only (Ze.of_upd (T:=[87]) u47 k5_b2'17 (by decide)) (by decide)).only (Ze.of_upd (T:=[87]) u48 k5_b1'8 (by decide)) (by decide)
   refine xec 8 k48 (.agg #[.slice pe s.es.length ce,.slice pb s.bs.length cb,.int .i64 s.deep,.int .i64 (↑s.looked:Int),.slice px46 ((fv++[(Ft.mk (t.way++[t.no]) 12 fa2 fc2)]).length) cx46]) ?_
   rw[hwo1.fuel hft hfs]
   exact⟨pe,pb,_,ce,cb,_,fv++[(Ft.mk (t.way++[t.no]) 12 fa2 fc2)],rfl,hB'28,hEn'8,hBl'12,o46'1,Xu hfv,(Yc.note (f:=(Ft.mk (t.way++[t.no]) 12 fa2 fc2)) hKt'14 (hNB'8.mono hszA) hNp).sub (fun x hx=>List.mem_append.2 (.inr hx))⟩
  have hfs:¬ fuel≤s.looked:=by omega
  refine xb 5 3 k5_b2'9 ?_
  refine xwm 0 ((↑s.looked:Int)+1) (↑(s.looked+1):Int) ?_
  refine xs 1 k5_b2'9 [.slice pe s.es.length ce,.slice pb s.bs.length cb,.int .i64 s.deep,.int .i64 (↑(s.looked+1):Int),.slice pf fv.length cf] fun W49 u49 k49=>?_
  have k8'3:=u49.blkT k8 k5_b2'9 (by decide)
  refine xlv 5 k8'3.rp ?_
  refine xb 2 2 k49 ?_
  have hBl'13:=u49.own2 (u8.own2 (Zb hBl n7.below) n7.blk (by decide)) k5_b2'9 (by decide)
  have hB'29:=u49.below (u8.below (bln hB_5 n7.below) g7) g2
  have hBlA:=hBl'13
  have hszA:=hB'29.size
  have hI'6:=((hI.below n7.below).only (Ze.of_upd (T:=[184]) u8 n7.blk (by decide)) (by decide)).only (Ze.of_upd (T:=[87]) u49 k5_b2'9 (by decide)) (by decide)
  have hKt'15:=((hKt.below n7.below).only (Ze.of_upd (T:=[184]) u8 n7.blk (by decide)) (by decide)).only (Ze.of_upd (T:=[87]) u49 k5_b2'9 (by decide)) (by decide)
  refine xc 0 (args:=#[.pointer (some ⟨bm,0,none⟩),.agg #[.int .i64 t.no,.int .i64 t.lo,.int .i64 t.hi,.slice t.wa t.way.length t.wc,.int .i64 t.ft],.int .i64 tree,.int .i64 s.deep]) ((ref14_look B bm p k c l t.no tree t.lo t.hi s.deep t.way t.wa t.wc (.int .i64 t.ft) _ hI'6 (Yc.hd hKt'15).ints (by omega) (hwo1.right t List.mem_cons_self hft)).mono (fun _ _ h=>Zgj.or hBl'13 h)) ?_
  rintro e W50 hq50
  rcases hq50 with ⟨hle,a4,b4,k4,n4,c4,v4,m4,d4,fa,fc,rfl,hb50,hNA⟩|⟨hle,kp,kc,vp,vc,rfl,hb50,hk,hApk,hv_⟩
  ·refine xa 3 [.int .i64 0,.bool false,.slice none 0 0,.slice none 0 0] 188 fun b51 W51 n51=>?_
   have hB'30:=bln hB'29 hb50
   have g51:=n51.ge hB'30
   refine xa 0 [.slice none 0 0,.int .i64 0] 43 fun b52 W52 n52=>?_
   have hB'31:=bln hB'30 n51.below
   have g52:=n52.ge hB'31
   have hFl'17:=Zb (Zb (u49.own2 (u8.own2 (Zb hFl n7.below) n7.blk (by decide)) k5_b2'9 (by decide)) hb50) n51.below
   have r52_hFl:=Zu hFl'17 n52
   have k51:=n51.blk.below n52.below
   refine xsv 0 k51 [.int .i64 a4,.bool b4,.slice k4 n4 c4,.slice v4 m4 d4] fun W53 u53 k53=>?_
   have k52:=u53.blkT n52.blk k51 (by decide)
   refine xsv 0 k52 [.slice fa 1 fc,.int .i64 (Zx l t.way t.no tree t.lo t.hi s.deep)] fun W54 u54 k54=>?_
   refine xb 6 1 k54 ?_
   refine xk 3 (show(((Zx l t.way t.no tree t.lo t.hi s.deep) != (0:Int)):Bool)=true from bne_iff_ne.2 hle) ?_
   refine xd 1 (.t w.heap.size [43,87]) ?_
   have k8'4:=(u54.blkT (u53.blkT (((k8'3.below hb50).below n51.below).below n52.below) k51 (by decide)) k52 (by decide)).below (Za W54)
   refine xbt (.e [0,2] 3) 3 w.heap.size [43,87] k8'4 ?_
   refine xm2 0 1 4 ?_ ?_
   ·have k49'1:=(u54.blkT (u53.blkT (((k49.below hb50).below n51.below).below n52.below) k51 (by decide)) k52 (by decide)).below (Za W54)
    refine xb 0 4 k49'1 ?_
    have k54'1:=k54.below (Za W54)
    refine xlv (.o [] 4) k54'1.rp ?_
    have hKt'16:=(((((hKt'15.below hb50).below n51.below).below n52.below).only (Ze.of_upd (T:=[188]) u53 k51 (by decide)) (by decide)).only (Ze.of_upd (T:=[43]) u54 k52 (by decide)) (by decide)).below (Za W54)
    have hNA'1:=((((hNA.below n51.below).below n52.below).only (Ze.of_upd (T:=[188]) u53 k51 (by decide)) (by decide)).only (Ze.of_upd (T:=[43]) u54 k52 (by decide)) (by decide)).below (Za W54)
    refine yc (.o [] 5) (args:=#[.slice t.wa t.way.length t.wc,.agg #[.slice fa 1 fc,.int .i64 (Zx l t.way t.no tree t.lo t.hi s.deep)]]) (.t w.heap.size [43,87]) (Qs t.wa t.wc t.way (Zx l t.way t.no tree t.lo t.hi s.deep) _ fa fc t.no _ hle (Yc.hd hKt'16).ints (by omega) hNA'1) ?_
    rintro _ W55 ⟨fa2,fc2,rfl,hb55,hNB⟩
    refine⟨(SF.of_below _ hb55),?_⟩
    have hNp:=hNB.apart hBlA (Nat.le_refl _)
    refine xbs (.o [] 6) 1 [.slice fa2 ((t.way++[t.no]).length) fc2,.int .i64 (Zx l t.way t.no tree t.lo t.hi s.deep)] 43 fun b56 W56 n56=>?_
    have k54'2:=k54'1.below hb55
    have d56_b52:=n56.ne k54'2
    have hB'32:=bln (bln (u54.below (u53.below (bln hB'31 n52.below) g51) g52) (Za W54)) hb55
    have g56:=n56.ge hB'32
    have hFl'18:=Zb (Zb (u54.own3 (u53.own2 (Zb hFl'17 n52.below) k51 (by decide)) r52_hFl) (Za W54)) hb55
    have r56_hFl:=Zu hFl'18 n56
    have hFl'19:=Zb hFl'18 n56.below
    have hB'33:=bln hB'32 n56.below
    refine ybi (.o [] 7) (.t w.heap.size [43,87]) fun _ _ _ _ zJ zQ zo zx zy zK=>Zp (m:=1) (news:=[.slice fa2 ((t.way++[t.no]).length) fc2,.int .i64 (Zx l t.way t.no tree t.lo t.hi s.deep)]) (.agg #[.slice none 0 0,.int .i64 0]) 2 32 ((fv++[(Ft.mk (t.way++[t.no]) (Zx l t.way t.no tree t.lo t.hi s.deep) fa2 fc2)]).length) (((fv++[(Ft.mk (t.way++[t.no]) (Zx l t.way t.no tree t.lo t.hi s.deep) fa2 fc2)]).flatMap Za4)) zo Tryz.underlying85 (by kernel_rfl) rfl (by decide) zx hFl'19 zy (n56.blk.sl 1 1 (by decide) (by decide)) rfl (by simp[Value.oneCell']) (by unfold maxLen;omega) (by omega) hB'33.size (by simp) (by rw[List.flatMap_append];rfl) fun px57 cx57 W57 o57 hg57 hb57=>?_
    refine zK _ _ (Zr hb57 hg57 hFl'19 (by decide)) ?_
    have k49'2:=((k49'1.below hb55).below n56.below).grown hg57 hFl'19 (by decide)
    refine ys (.o [8] 9) k49'2 [.slice pe s.es.length ce,.slice pb s.bs.length cb,.int .i64 s.deep,.int .i64 (↑(s.looked+1):Int),.slice px57 ((fv++[(Ft.mk (t.way++[t.no]) (Zx l t.way t.no tree t.lo t.hi s.deep) fa2 fc2)]).length) cx57] (.t w.heap.size [43,87]) fun W58 u58 k58=>⟨(Zi u58 k49'2 g2 (by decide)),?_⟩
    refine xv1 5 10 (show(.slice (Qm aw 1 cw 5) (ts.length-1) (cw-1):Value)=.slice (Qm aw 1 cw 5) r.length (cw-1) from by rw[htr];rfl) ?_
    have hWs'5:=((((((((((((hWs.below n7.below).updN u8 n7 rfl).only (Ze.of_upd (T:=[87]) u49 k5_b2'9 (by decide)) (by decide)).below hb50).below n51.below).below n52.below).only (Ze.of_upd (T:=[188]) u53 k51 (by decide)) (by decide)).only (Ze.of_upd (T:=[43]) u54 k52 (by decide)) (by decide)).below (Za W54)).below hb55).below n56.below).only (Ze.of_grown (T:=[43]) hg57 hFl'19 (by decide)) (by decide)).only (Ze.of_upd (T:=[87]) u58 k49'2 (by decide)) (by decide)
    have hKt'17:=(((hKt'16.below hb55).below n56.below).only (Ze.of_grown (T:=[43]) hg57 hFl'19 (by decide)) (by decide)).only (Ze.of_upd (T:=[87]) u58 k49'2 (by decide)) (by decide)
    have hNB'9:=((hNB.below n56.below).only (Ze.of_grown (T:=[43]) hg57 hFl'19 (by decide)) (by decide)).only (Ze.of_upd (T:=[87]) u58 k49'2 (by decide)) (by decide)
    have hB'34:=u58.below (hB'33.trans hb57) g2
    have k5_b1'9:=u58.blk (((((u54.blkT (u53.blkT ((((u49.blk (u8.blkT (k5_b1.below n7.below) n7.blk (by decide)) (Ne.symm (Ne.symm d2_b1))).below hb50).below n51.below).below n52.below) k51 (by decide)) k52 (by decide)).below (Za W54)).below hb55).below n56.below).grown hg57 hFl'19 (by decide)) (Ne.symm (Ne.symm d2_b1))
    have hEn'9:=u58.own2 (Zg (Zb (Zb (Zb (u54.own2 (u53.own2 (Zb (Zb (Zb (u49.own2 (u8.own2 (Zb hEn n7.below) n7.blk (by decide)) k5_b2'9 (by decide)) hb50) n51.below) n52.below) k51 (by decide)) k52 (by decide)) (Za W54)) hb55) n56.below) hg57 hFl'19 (by decide)) k49'2 (by decide)
    have hBl'14:=u58.own2 (Zg (Zb (Zb (Zb (u54.own2 (u53.own2 (Zb (Zb (Zb hBl'13 hb50) n51.below) n52.below) k51 (by decide)) k52 (by decide)) (Za W54)) hb55) n56.below) hg57 hFl'19 (by decide)) k49'2 (by decide)
    have o57'1:=u58.own2 o57 k49'2 (by decide)
    have hI'7:=(((((((((hI'6.below hb50).below n51.below).below n52.below).only (Ze.of_upd (T:=[188]) u53 k51 (by decide)) (by decide)).only (Ze.of_upd (T:=[43]) u54 k52 (by decide)) (by decide)).below (Za W54)).below hb55).below n56.below).only (Ze.of_grown (T:=[43]) hg57 hFl'19 (by decide)) (by decide)).only (Ze.of_upd (T:=[87]) u58 k49'2 (by decide)) (by decide)
    refine ze 0 (hJ5 _ _ _ ⟨(Yh t.way [t.no] (Zx l t.way t.no tree t.lo t.hi s.deep) { s with looked:=s.looked+1 }),r,pe,pb,px57,ce,cb,cx57,(fv++[(Ft.mk (t.way++[t.no]) (Zx l t.way t.no tree t.lo t.hi s.deep) fa2 fc2)]),(Qm aw 1 cw 5),(cw-1),rfl,rfl,hB'34,k5_b1'9,k58,hEn'9,hBl'14,o57'1,(Bo.tail hWs'5 htr),(Yc.note (f:=(Ft.mk (t.way++[t.no]) (Zx l t.way t.no tree t.lo t.hi s.deep) fa2 fc2)) hKt'17 (hNB'9.mono hszA) hNp),hI'7,hwo1.err hft hfs hle,Xu hfv⟩ ?_)
    show 20*(fuel.toNat-(s.looked+1))+r.length<20*(fuel.toNat-s.looked)+ts.length
    omega
   have k54'3:=k54.below (Za W54)
   refine xlv 0 k54'3.rp ?_
   refine xm2 0 1 5 ?_ ?_
   ·have k49'3:=(u54.blkT (u53.blkT (((k49.below hb50).below n51.below).below n52.below) k51 (by decide)) k52 (by decide)).below (Za W54)
    refine xb 0 4 k49'3 ?_
    have hKt'18:=(((((hKt'15.below hb50).below n51.below).below n52.below).only (Ze.of_upd (T:=[188]) u53 k51 (by decide)) (by decide)).only (Ze.of_upd (T:=[43]) u54 k52 (by decide)) (by decide)).below (Za W54)
    have hNA'2:=((((hNA.below n51.below).below n52.below).only (Ze.of_upd (T:=[188]) u53 k51 (by decide)) (by decide)).only (Ze.of_upd (T:=[43]) u54 k52 (by decide)) (by decide)).below (Za W54)
    refine yc (.o [] 5) (args:=#[.slice t.wa t.way.length t.wc,.agg #[.slice fa 1 fc,.int .i64 (Zx l t.way t.no tree t.lo t.hi s.deep)]]) (.t w.heap.size [43,87]) (Qs t.wa t.wc t.way (Zx l t.way t.no tree t.lo t.hi s.deep) _ fa fc t.no _ hle (Yc.hd hKt'18).ints (by omega) hNA'2) ?_
    rintro _ W59 ⟨fa2,fc2,rfl,hb59,hNB⟩
    refine⟨(SF.of_below _ hb59),?_⟩
    have hNp:=hNB.apart hBlA (Nat.le_refl _)
    refine xbs (.o [] 6) 1 [.slice fa2 ((t.way++[t.no]).length) fc2,.int .i64 (Zx l t.way t.no tree t.lo t.hi s.deep)] 43 fun b60 W60 n60=>?_
    have k54'4:=k54'3.below hb59
    have d60_b52:=n60.ne k54'4
    have hB'35:=bln (bln (u54.below (u53.below (bln hB'31 n52.below) g51) g52) (Za W54)) hb59
    have g60:=n60.ge hB'35
    have hFl'20:=Zb (Zb (u54.own3 (u53.own2 (Zb hFl'17 n52.below) k51 (by decide)) r52_hFl) (Za W54)) hb59
    have r60_hFl:=Zu hFl'20 n60
    have hFl'21:=Zb hFl'20 n60.below
    have hB'36:=bln hB'35 n60.below
    refine ybi (.o [] 7) (.t w.heap.size [43,87]) fun _ _ _ _ zJ zQ zo zx zy zK=>Zp (m:=1) (news:=[.slice fa2 ((t.way++[t.no]).length) fc2,.int .i64 (Zx l t.way t.no tree t.lo t.hi s.deep)]) (.agg #[.slice none 0 0,.int .i64 0]) 2 32 ((fv++[(Ft.mk (t.way++[t.no]) (Zx l t.way t.no tree t.lo t.hi s.deep) fa2 fc2)]).length) (((fv++[(Ft.mk (t.way++[t.no]) (Zx l t.way t.no tree t.lo t.hi s.deep) fa2 fc2)]).flatMap Za4)) zo Tryz.underlying85 (by kernel_rfl) rfl (by decide) zx hFl'21 zy (n60.blk.sl 1 1 (by decide) (by decide)) rfl (by simp[Value.oneCell']) (by unfold maxLen;omega) (by omega) hB'36.size (by simp) (by rw[List.flatMap_append];rfl) fun px61 cx61 W61 o61 hg61 hb61=>?_
    refine zK _ _ (Zr hb61 hg61 hFl'21 (by decide)) ?_
    have k49'4:=((k49'3.below hb59).below n60.below).grown hg61 hFl'21 (by decide)
    refine ys (.o [8] 9) k49'4 [.slice pe s.es.length ce,.slice pb s.bs.length cb,.int .i64 s.deep,.int .i64 (↑(s.looked+1):Int),.slice px61 ((fv++[(Ft.mk (t.way++[t.no]) (Zx l t.way t.no tree t.lo t.hi s.deep) fa2 fc2)]).length) cx61] (.t w.heap.size [43,87]) fun W62 u62 k62=>⟨(Zi u62 k49'4 g2 (by decide)),?_⟩
    refine xv1 5 10 (show(.slice (Qm aw 1 cw 5) (ts.length-1) (cw-1):Value)=.slice (Qm aw 1 cw 5) r.length (cw-1) from by rw[htr];rfl) ?_
    have hWs'6:=((((((((((((hWs.below n7.below).updN u8 n7 rfl).only (Ze.of_upd (T:=[87]) u49 k5_b2'9 (by decide)) (by decide)).below hb50).below n51.below).below n52.below).only (Ze.of_upd (T:=[188]) u53 k51 (by decide)) (by decide)).only (Ze.of_upd (T:=[43]) u54 k52 (by decide)) (by decide)).below (Za W54)).below hb59).below n60.below).only (Ze.of_grown (T:=[43]) hg61 hFl'21 (by decide)) (by decide)).only (Ze.of_upd (T:=[87]) u62 k49'4 (by decide)) (by decide)
    have hKt'19:=(((hKt'18.below hb59).below n60.below).only (Ze.of_grown (T:=[43]) hg61 hFl'21 (by decide)) (by decide)).only (Ze.of_upd (T:=[87]) u62 k49'4 (by decide)) (by decide)
    have hNB'10:=((hNB.below n60.below).only (Ze.of_grown (T:=[43]) hg61 hFl'21 (by decide)) (by decide)).only (Ze.of_upd (T:=[87]) u62 k49'4 (by decide)) (by decide)
    have hB'37:=u62.below (hB'36.trans hb61) g2
    have k5_b1'10:=u62.blk (((((u54.blkT (u53.blkT ((((u49.blk (u8.blkT (k5_b1.below n7.below) n7.blk (by decide)) (Ne.symm (Ne.symm d2_b1))).below hb50).below n51.below).below n52.below) k51 (by decide)) k52 (by decide)).below (Za W54)).below hb59).below n60.below).grown hg61 hFl'21 (by decide)) (Ne.symm (Ne.symm d2_b1))
    have hEn'10:=u62.own2 (Zg (Zb (Zb (Zb (u54.own2 (u53.own2 (Zb (Zb (Zb (u49.own2 (u8.own2 (Zb hEn n7.below) n7.blk (by decide)) k5_b2'9 (by decide)) hb50) n51.below) n52.below) k51 (by decide)) k52 (by decide)) (Za W54)) hb59) n60.below) hg61 hFl'21 (by decide)) k49'4 (by decide)
    have hBl'15:=u62.own2 (Zg (Zb (Zb (Zb (u54.own2 (u53.own2 (Zb (Zb (Zb hBl'13 hb50) n51.below) n52.below) k51 (by decide)) k52 (by decide)) (Za W54)) hb59) n60.below) hg61 hFl'21 (by decide)) k49'4 (by decide)
    have o61'1:=u62.own2 o61 k49'4 (by decide)
    have hI'8:=(((((((((hI'6.below hb50).below n51.below).below n52.below).only (Ze.of_upd (T:=[188]) u53 k51 (by decide)) (by decide)).only (Ze.of_upd (T:=[43]) u54 k52 (by decide)) (by decide)).below (Za W54)).below hb59).below n60.below).only (Ze.of_grown (T:=[43]) hg61 hFl'21 (by decide)) (by decide)).only (Ze.of_upd (T:=[87]) u62 k49'4 (by decide)) (by decide)
    refine ze 0 (hJ5 _ _ _ ⟨(Yh t.way [t.no] (Zx l t.way t.no tree t.lo t.hi s.deep) { s with looked:=s.looked+1 }),r,pe,pb,px61,ce,cb,cx61,(fv++[(Ft.mk (t.way++[t.no]) (Zx l t.way t.no tree t.lo t.hi s.deep) fa2 fc2)]),(Qm aw 1 cw 5),(cw-1),rfl,rfl,hB'37,k5_b1'10,k62,hEn'10,hBl'15,o61'1,(Bo.tail hWs'6 htr),(Yc.note (f:=(Ft.mk (t.way++[t.no]) (Zx l t.way t.no tree t.lo t.hi s.deep) fa2 fc2)) hKt'19 (hNB'10.mono hszA) hNp),hI'8,hwo1.err hft hfs hle,Xu hfv⟩ ?_)
    show 20*(fuel.toNat-(s.looked+1))+r.length<20*(fuel.toNat-s.looked)+ts.length
    omega
   have hKt'20:=(((((hKt'15.below hb50).below n51.below).below n52.below).only (Ze.of_upd (T:=[188]) u53 k51 (by decide)) (by decide)).only (Ze.of_upd (T:=[43]) u54 k52 (by decide)) (by decide)).below (Za W54)
   have hNA'3:=((((hNA.below n51.below).below n52.below).only (Ze.of_upd (T:=[188]) u53 k51 (by decide)) (by decide)).only (Ze.of_upd (T:=[43]) u54 k52 (by decide)) (by decide)).below (Za W54)
   refine yc 0 (args:=#[.slice t.wa t.way.length t.wc,.agg #[.slice fa 1 fc,.int .i64 (Zx l t.way t.no tree t.lo t.hi s.deep)]]) (.t w.heap.size [43,87]) (Qs t.wa t.wc t.way (Zx l t.way t.no tree t.lo t.hi s.deep) _ fa fc t.no _ hle (Yc.hd hKt'20).ints (by omega) hNA'3) ?_
   rintro _ W63 ⟨fa2,fc2,rfl,hb63,hNB⟩
   refine⟨(SF.of_below _ hb63),?_⟩
   have hNp:=hNB.apart hBlA (Nat.le_refl _)
   refine xm2 0 1 6 ?_ ?_
   ·have k49'5:=((u54.blkT (u53.blkT (((k49.below hb50).below n51.below).below n52.below) k51 (by decide)) k52 (by decide)).below (Za W54)).below hb63
    refine xb 0 4 k49'5 ?_
    refine xbs (.o [] 6) 1 [.slice fa2 ((t.way++[t.no]).length) fc2,.int .i64 (Zx l t.way t.no tree t.lo t.hi s.deep)] 43 fun b64 W64 n64=>?_
    have k54'5:=k54'3.below hb63
    have d64_b52:=n64.ne k54'5
    have hB'38:=bln (bln (u54.below (u53.below (bln hB'31 n52.below) g51) g52) (Za W54)) hb63
    have g64:=n64.ge hB'38
    have hFl'22:=Zb (Zb (u54.own3 (u53.own2 (Zb hFl'17 n52.below) k51 (by decide)) r52_hFl) (Za W54)) hb63
    have r64_hFl:=Zu hFl'22 n64
    have hFl'23:=Zb hFl'22 n64.below
    have hB'39:=bln hB'38 n64.below
    refine ybi (.o [] 7) (.t w.heap.size [43,87]) fun _ _ _ _ zJ zQ zo zx zy zK=>Zp (m:=1) (news:=[.slice fa2 ((t.way++[t.no]).length) fc2,.int .i64 (Zx l t.way t.no tree t.lo t.hi s.deep)]) (.agg #[.slice none 0 0,.int .i64 0]) 2 32 ((fv++[(Ft.mk (t.way++[t.no]) (Zx l t.way t.no tree t.lo t.hi s.deep) fa2 fc2)]).length) (((fv++[(Ft.mk (t.way++[t.no]) (Zx l t.way t.no tree t.lo t.hi s.deep) fa2 fc2)]).flatMap Za4)) zo Tryz.underlying85 (by kernel_rfl) rfl (by decide) zx hFl'23 zy (n64.blk.sl 1 1 (by decide) (by decide)) rfl (by simp[Value.oneCell']) (by unfold maxLen;omega) (by omega) hB'39.size (by simp) (by rw[List.flatMap_append];rfl) fun px65 cx65 W65 o65 hg65 hb65=>?_
    refine zK _ _ (Zr hb65 hg65 hFl'23 (by decide)) ?_
    have k49'6:=(k49'5.below n64.below).grown hg65 hFl'23 (by decide)
    refine ys (.o [8] 9) k49'6 [.slice pe s.es.length ce,.slice pb s.bs.length cb,.int .i64 s.deep,.int .i64 (↑(s.looked+1):Int),.slice px65 ((fv++[(Ft.mk (t.way++[t.no]) (Zx l t.way t.no tree t.lo t.hi s.deep) fa2 fc2)]).length) cx65] (.t w.heap.size [43,87]) fun W66 u66 k66=>⟨(Zi u66 k49'6 g2 (by decide)),?_⟩
    refine xv1 5 10 (show(.slice (Qm aw 1 cw 5) (ts.length-1) (cw-1):Value)=.slice (Qm aw 1 cw 5) r.length (cw-1) from by rw[htr];rfl) ?_
    have hWs'7:=((((((((((((hWs.below n7.below).updN u8 n7 rfl).only (Ze.of_upd (T:=[87]) u49 k5_b2'9 (by decide)) (by decide)).below hb50).below n51.below).below n52.below).only (Ze.of_upd (T:=[188]) u53 k51 (by decide)) (by decide)).only (Ze.of_upd (T:=[43]) u54 k52 (by decide)) (by decide)).below (Za W54)).below hb63).below n64.below).only (Ze.of_grown (T:=[43]) hg65 hFl'23 (by decide)) (by decide)).only (Ze.of_upd (T:=[87]) u66 k49'6 (by decide)) (by decide)
    have hKt'21:=(((hKt'20.below hb63).below n64.below).only (Ze.of_grown (T:=[43]) hg65 hFl'23 (by decide)) (by decide)).only (Ze.of_upd (T:=[87]) u66 k49'6 (by decide)) (by decide)
    have hNB'11:=((hNB.below n64.below).only (Ze.of_grown (T:=[43]) hg65 hFl'23 (by decide)) (by decide)).only (Ze.of_upd (T:=[87]) u66 k49'6 (by decide)) (by decide)
    have hB'40:=u66.below (hB'39.trans hb65) g2
    have k5_b1'11:=u66.blk (((((u54.blkT (u53.blkT ((((u49.blk (u8.blkT (k5_b1.below n7.below) n7.blk (by decide)) (Ne.symm (Ne.symm d2_b1))).below hb50).below n51.below).below n52.below) k51 (by decide)) k52 (by decide)).below (Za W54)).below hb63).below n64.below).grown hg65 hFl'23 (by decide)) (Ne.symm (Ne.symm d2_b1))
    have hEn'11:=u66.own2 (Zg (Zb (Zb (Zb (u54.own2 (u53.own2 (Zb (Zb (Zb (u49.own2 (u8.own2 (Zb hEn n7.below) n7.blk (by decide)) k5_b2'9 (by decide)) hb50) n51.below) n52.below) k51 (by decide)) k52 (by decide)) (Za W54)) hb63) n64.below) hg65 hFl'23 (by decide)) k49'6 (by decide)
    have hBl'16:=u66.own2 (Zg (Zb (Zb (Zb (u54.own2 (u53.own2 (Zb (Zb (Zb hBl'13 hb50) n51.below) n52.below) k51 (by decide)) k52 (by decide)) (Za W54)) hb63) n64.below) hg65 hFl'23 (by decide)) k49'6 (by decide)
    have o65'1:=u66.own2 o65 k49'6 (by decide)
    have hI'9:=(((((((((hI'6.below hb50).below n51.below).below n52.below).only (Ze.of_upd (T:=[188]) u53 k51 (by decide)) (by decide)).only (Ze.of_upd (T:=[43]) u54 k52 (by decide)) (by decide)).below (Za W54)).below hb63).below n64.below).only (Ze.of_grown (T:=[43]) hg65 hFl'23 (by decide)) (by decide)).only (Ze.of_upd (T:=[87]) u66 k49'6 (by decide)) (by decide)
    refine ze 0 (hJ5 _ _ _ ⟨(Yh t.way [t.no] (Zx l t.way t.no tree t.lo t.hi s.deep) { s with looked:=s.looked+1 }),r,pe,pb,px65,ce,cb,cx65,(fv++[(Ft.mk (t.way++[t.no]) (Zx l t.way t.no tree t.lo t.hi s.deep) fa2 fc2)]),(Qm aw 1 cw 5),(cw-1),rfl,rfl,hB'40,k5_b1'11,k66,hEn'11,hBl'16,o65'1,(Bo.tail hWs'7 htr),(Yc.note (f:=(Ft.mk (t.way++[t.no]) (Zx l t.way t.no tree t.lo t.hi s.deep) fa2 fc2)) hKt'21 (hNB'11.mono hszA) hNp),hI'9,hwo1.err hft hfs hle,Xu hfv⟩ ?_)
    show 20*(fuel.toNat-(s.looked+1))+r.length<20*(fuel.toNat-s.looked)+ts.length
    omega
   refine xbs 0 1 [.slice fa2 ((t.way++[t.no]).length) fc2,.int .i64 (Zx l t.way t.no tree t.lo t.hi s.deep)] 43 fun b67 W67 n67=>?_
   have k54'6:=k54'3.below hb63
   have d67_b52:=n67.ne k54'6
   have hB'41:=bln (bln (u54.below (u53.below (bln hB'31 n52.below) g51) g52) (Za W54)) hb63
   have g67:=n67.ge hB'41
   have hFl'24:=Zb (Zb (u54.own3 (u53.own2 (Zb hFl'17 n52.below) k51 (by decide)) r52_hFl) (Za W54)) hb63
   have r67_hFl:=Zu hFl'24 n67
   have k49'7:=(((u54.blkT (u53.blkT (((k49.below hb50).below n51.below).below n52.below) k51 (by decide)) k52 (by decide)).below (Za W54)).below hb63).below n67.below
   refine xb (.o [] 1) 4 k49'7 ?_
   have hFl'25:=Zb hFl'24 n67.below
   have hB'42:=bln hB'41 n67.below
   refine ybi (.o [] 7) (.t w.heap.size [43,87]) fun _ _ _ _ zJ zQ zo zx zy zK=>Zp (m:=1) (news:=[.slice fa2 ((t.way++[t.no]).length) fc2,.int .i64 (Zx l t.way t.no tree t.lo t.hi s.deep)]) (.agg #[.slice none 0 0,.int .i64 0]) 2 32 ((fv++[(Ft.mk (t.way++[t.no]) (Zx l t.way t.no tree t.lo t.hi s.deep) fa2 fc2)]).length) (((fv++[(Ft.mk (t.way++[t.no]) (Zx l t.way t.no tree t.lo t.hi s.deep) fa2 fc2)]).flatMap Za4)) zo Tryz.underlying85 (by kernel_rfl) rfl (by decide) zx hFl'25 zy (n67.blk.sl 1 1 (by decide) (by decide)) rfl (by simp[Value.oneCell']) (by unfold maxLen;omega) (by omega) hB'42.size (by simp) (by rw[List.flatMap_append];rfl) fun px68 cx68 W68 o68 hg68 hb68=>?_
   refine zK _ _ (Zr hb68 hg68 hFl'25 (by decide)) ?_
   have k49'8:=k49'7.grown hg68 hFl'25 (by decide)
   refine ys (.o [8] 9) k49'8 [.slice pe s.es.length ce,.slice pb s.bs.length cb,.int .i64 s.deep,.int .i64 (↑(s.looked+1):Int),.slice px68 ((fv++[(Ft.mk (t.way++[t.no]) (Zx l t.way t.no tree t.lo t.hi s.deep) fa2 fc2)]).length) cx68] (.t w.heap.size [43,87]) fun W69 u69 k69=>⟨(Zi u69 k49'8 g2 (by decide)),?_⟩
   refine xv1 5 10 (show(.slice (Qm aw 1 cw 5) (ts.length-1) (cw-1):Value)=.slice (Qm aw 1 cw 5) r.length (cw-1) from by rw[htr];rfl) ?_
   have hWs'8:=((((((((((((hWs.below n7.below).updN u8 n7 rfl).only (Ze.of_upd (T:=[87]) u49 k5_b2'9 (by decide)) (by decide)).below hb50).below n51.below).below n52.below).only (Ze.of_upd (T:=[188]) u53 k51 (by decide)) (by decide)).only (Ze.of_upd (T:=[43]) u54 k52 (by decide)) (by decide)).below (Za W54)).below hb63).below n67.below).only (Ze.of_grown (T:=[43]) hg68 hFl'25 (by decide)) (by decide)).only (Ze.of_upd (T:=[87]) u69 k49'8 (by decide)) (by decide)
   have hKt'22:=(((hKt'20.below hb63).below n67.below).only (Ze.of_grown (T:=[43]) hg68 hFl'25 (by decide)) (by decide)).only (Ze.of_upd (T:=[87]) u69 k49'8 (by decide)) (by decide)
   have hNB'12:=((hNB.below n67.below).only (Ze.of_grown (T:=[43]) hg68 hFl'25 (by decide)) (by decide)).only (Ze.of_upd (T:=[87]) u69 k49'8 (by decide)) (by decide)
   have hB'43:=u69.below (hB'42.trans hb68) g2
   have k5_b1'12:=u69.blk (((((u54.blkT (u53.blkT ((((u49.blk (u8.blkT (k5_b1.below n7.below) n7.blk (by decide)) (Ne.symm (Ne.symm d2_b1))).below hb50).below n51.below).below n52.below) k51 (by decide)) k52 (by decide)).below (Za W54)).below hb63).below n67.below).grown hg68 hFl'25 (by decide)) (Ne.symm (Ne.symm d2_b1))
   have hEn'12:=u69.own2 (Zg (Zb (Zb (Zb (u54.own2 (u53.own2 (Zb (Zb (Zb (u49.own2 (u8.own2 (Zb hEn n7.below) n7.blk (by decide)) k5_b2'9 (by decide)) hb50) n51.below) n52.below) k51 (by decide)) k52 (by decide)) (Za W54)) hb63) n67.below) hg68 hFl'25 (by decide)) k49'8 (by decide)
   have hBl'17:=u69.own2 (Zg (Zb (Zb (Zb (u54.own2 (u53.own2 (Zb (Zb (Zb hBl'13 hb50) n51.below) n52.below) k51 (by decide)) k52 (by decide)) (Za W54)) hb63) n67.below) hg68 hFl'25 (by decide)) k49'8 (by decide)
   have o68'1:=u69.own2 o68 k49'8 (by decide)
   have hI'10:=(((((((((hI'6.below hb50).below n51.below).below n52.below).only (Ze.of_upd (T:=[188]) u53 k51 (by decide)) (by decide)).only (Ze.of_upd (T:=[43]) u54 k52 (by decide)) (by decide)).below (Za W54)).below hb63).below n67.below).only (Ze.of_grown (T:=[43]) hg68 hFl'25 (by decide)) (by decide)).only (Ze.of_upd (T:=[87]) u69 k49'8 (by decide)) (by decide)
   refine ze 0 (hJ5 _ _ _ ⟨(Yh t.way [t.no] (Zx l t.way t.no tree t.lo t.hi s.deep) { s with looked:=s.looked+1 }),r,pe,pb,px68,ce,cb,cx68,(fv++[(Ft.mk (t.way++[t.no]) (Zx l t.way t.no tree t.lo t.hi s.deep) fa2 fc2)]),(Qm aw 1 cw 5),(cw-1),rfl,rfl,hB'43,k5_b1'12,k69,hEn'12,hBl'17,o68'1,(Bo.tail hWs'8 htr),(Yc.note (f:=(Ft.mk (t.way++[t.no]) (Zx l t.way t.no tree t.lo t.hi s.deep) fa2 fc2)) hKt'22 (hNB'12.mono hszA) hNp),hI'10,hwo1.err hft hfs hle,Xu hfv⟩ ?_)
   show 20*(fuel.toNat-(s.looked+1))+r.length<20*(fuel.toNat-s.looked)+ts.length
   omega
  have hnc:Zn (inB l t.no)≤18:=(Hw hle).2.2
  refine xa 3 [.int .i64 0,.bool false,.slice none 0 0,.slice none 0 0] 188 fun b70 W70 n70=>?_
  have hB'44:=bln hB'29 hb50
  have g70:=n70.ge hB'44
  refine xa 0 [.slice none 0 0,.int .i64 0] 43 fun b71 W71 n71=>?_
  have hB'45:=bln hB'44 n70.below
  have g71:=n71.ge hB'45
  have hFl'26:=Zb (Zb (u49.own2 (u8.own2 (Zb hFl n7.below) n7.blk (by decide)) k5_b2'9 (by decide)) hb50) n70.below
  have r71_hFl:=Zu hFl'26 n71
  have k70:=n70.blk.below n71.below
  refine xsv 0 k70 [.int .i64 (Xr (inB l t.no)),.bool (Xl (inB l t.no)),.slice kp (Zn (inB l t.no)) kc,.slice vp (Zn (inB l t.no)) vc] fun W72 u72 k72=>?_
  have k71:=u72.blkT n71.blk k70 (by decide)
  refine xsv 0 k71 [.slice none 0 0,.int .i64 0] fun W73 u73 k73=>?_
  refine xb 6 1 k73 ?_
  have k49'9:=u73.blkT (u72.blkT (((k49.below hb50).below n70.below).below n71.below) k70 (by decide)) k71 (by decide)
  refine xb 9 1 k49'9 ?_
  have k8'5:=u73.blkT (u72.blkT (((k8'3.below hb50).below n70.below).below n71.below) k70 (by decide)) k71 (by decide)
  refine xb 1 0 k8'5 ?_
  refine xbs 0 1 [.int .i64 t.no] 3 fun b74 W74 n74=>?_
  have hB'46:=u73.below (u72.below (bln hB'45 n71.below) g70) g71
  have g74:=n74.ge hB'46
  have hBl'18:=u73.own2 (u72.own2 (Zb (Zb (Zb hBl'13 hb50) n70.below) n71.below) k70 (by decide)) k71 (by decide)
  have r74_hBl:=Zu hBl'18 n74
  have hk'1:=u73.own2 (u72.own2 (Zb (Zb (Zd hk hB'29.size) n70.below) n71.below) k70 (by decide)) k71 (by decide)
  have r74_hk:=Zu hk'1 n74
  have hBl'19:=Zb hBl'18 n74.below
  have hB'47:=bln hB'46 n74.below
  refine xbi 0 fun _ _ _ _ zJ zQ zo zx zy zK=>Rh (b:=b74) (c:=1) (m:=1) (news:=[.int .i64 t.no]) (.int .i64 0) 1 8 ((s.bs++[t.no]).length) (((s.bs++[t.no]).map (Value.int .i64))) zo Tryz.underlying30 (by kernel_rfl) rfl (by decide) zx hBl'19 zy n74.blk rfl (by simp[Value.oneCell']) (by unfold maxLen;omega) (by omega) hB'47.size (by simp) (by simp) fun px75 cx75 W75 o75 hg75 hb75 ha75=>?_
  have hk'2:=Zb hk'1 n74.below
  have q75_hk:=hApk.row hk'2 hg75
  replace hApk:=(hApk.grow hk'2 ha75)
  have hkq75:=q75_hk
  refine zK _ _ ?_
  have k49'10:=(k49'9.below n74.below).grown hg75 hBl'19 (by decide)
  refine xs 1 k49'10 [.slice pe s.es.length ce,.slice px75 ((s.bs++[t.no]).length) cx75,.int .i64 s.deep,.int .i64 (↑(s.looked+1):Int),.slice pf fv.length cf] fun W76 u76 k76=>?_
  have k72'1:=u76.blkT (((u73.blkT k72 k71 (by decide)).below n74.below).grown hg75 hBl'19 (by decide)) k49'10 (by decide)
  refine xb 6 1 k72'1 ?_
  refine xi 2 (Xl (inB l t.no)) (fun hc77=>?_) (fun hc77=>?_)
  ·have hlf:=hc77
   have k8'6:=u76.blkT ((k8'5.below n74.below).grown hg75 hBl'19 (by decide)) k49'10 (by decide)
   refine xb 3 3 k8'6 ?_
   refine xwm 1 ((↑t.way.length:Int)+1) (↑(t.way.length+1):Int) ?_
   refine xs 1 k76 [.slice pe s.es.length ce,.slice px75 ((s.bs++[t.no]).length) cx75,.int .i64 (↑(t.way.length+1):Int),.int .i64 (↑(s.looked+1):Int),.slice pf fv.length cf] fun W78 u78 k78=>?_
   have hWs'9:=(((((((((((hWs.below n7.below).updN u8 n7 rfl).only (Ze.of_upd (T:=[87]) u49 k5_b2'9 (by decide)) (by decide)).below hb50).below n70.below).below n71.below).only (Ze.of_upd (T:=[188]) u72 k70 (by decide)) (by decide)).only (Ze.of_upd (T:=[43]) u73 k71 (by decide)) (by decide)).below n74.below).only (Ze.of_grown (T:=[3]) hg75 hBl'19 (by decide)) (by decide)).only (Ze.of_upd (T:=[87]) u76 k49'10 (by decide)) (by decide)).only (Ze.of_upd (T:=[87]) u78 k76 (by decide)) (by decide)
   have hWu:=hWs'9.un
   have hgl:=(hwo1.leaf hft hfs hle hlf).grow.1
   have hgl2:s.es.length+Zn (inB l t.no)≤1000000:=by have q:=Nat.le_trans hgl hfe;simpa [Gl] using q
   have hEn'13:=u78.own2 (u76.own2 (Zg (Zb (u73.own2 (u72.own2 (Zb (Zb (Zb (u49.own2 (u8.own2 (Zb hEn n7.below) n7.blk (by decide)) k5_b2'9 (by decide)) hb50) n70.below) n71.below) k70 (by decide)) k71 (by decide)) n74.below) hg75 hBl'19 (by decide)) k49'10 (by decide)) k76 (by decide)
   have hI'11:=((((((((hI'6.below hb50).below n70.below).below n71.below).only (Ze.of_upd (T:=[188]) u72 k70 (by decide)) (by decide)).only (Ze.of_upd (T:=[43]) u73 k71 (by decide)) (by decide)).below n74.below).only (Ze.of_grown (T:=[3]) hg75 hBl'19 (by decide)) (by decide)).only (Ze.of_upd (T:=[87]) u76 k49'10 (by decide)) (by decide)).only (Ze.of_upd (T:=[87]) u78 k76 (by decide)) (by decide)
   have hFl'27:=u78.own2 (u76.own2 (Zg (Zb (u73.own3 (u72.own2 (Zb hFl'26 n71.below) k70 (by decide)) r71_hFl) n74.below) hg75 hBl'19 (by decide)) k49'10 (by decide)) k76 (by decide)
   have hKt'23:=((((((((hKt'15.below hb50).below n70.below).below n71.below).only (Ze.of_upd (T:=[188]) u72 k70 (by decide)) (by decide)).only (Ze.of_upd (T:=[43]) u73 k71 (by decide)) (by decide)).below n74.below).grow hBl'19 hg75 ha75).only (Ze.of_upd (T:=[87]) u76 k49'10 (by decide)) (by decide)).only (Ze.of_upd (T:=[87]) u78 k76 (by decide)) (by decide)
   have hv_'1:=u78.own2 (u76.own2 (Zg (Zb (u73.own2 (u72.own2 (Zb (Zb (Zd hv_ hB'29.size) n70.below) n71.below) k70 (by decide)) k71 (by decide)) n74.below) hg75 hBl'19 (by decide)) k49'10 (by decide)) k76 (by decide)
   have hk'3:=u78.own2 (u76.own2 hkq75 k49'10 (by decide)) k76 (by decide)
   have o75'1:=u78.own2 (u76.own2 o75 k49'10 (by decide)) k76 (by decide)
   have hB'48:=u78.below (u76.below (hB'47.trans hb75) g2) g2
   have k5_b1'13:=u78.blk (u76.blk (((u73.blkT (u72.blkT ((((u49.blk (u8.blkT (k5_b1.below n7.below) n7.blk (by decide)) (Ne.symm (Ne.symm d2_b1))).below hb50).below n70.below).below n71.below) k70 (by decide)) k71 (by decide)).below n74.below).grown hg75 hBl'19 (by decide)) (Ne.symm (Ne.symm d2_b1))) (Ne.symm (Ne.symm d2_b1))
   have k8'7:=u78.blkT k8'6 k76 (by decide)
   have k72'2:=u78.blkT k72'1 k76 (by decide)
   have k73'1:=u78.blkT (u76.blkT ((k73.below n74.below).grown hg75 hBl'19 (by decide)) k49'10 (by decide)) k76 (by decide)
   refine zl 9 186 (fun zm zkv V=>∃ (i:Nat) (pe2:Option Addr) (ce2:Nat),zkv=[(0,.pointer (some ⟨bm,0,none⟩)),(2,.int .i64 tree),(3,.int .i64 fuel),(8,.pointer (some ⟨b1,0,none⟩)),(9,.pointer (some ⟨b2,0,none⟩)),(10,.slice (Qm aw 1 cw 5) (ts.length-1) (cw-1)),(11,.pointer (some ⟨b7,0,none⟩)),(12,.pointer (some ⟨b70,0,none⟩)),(14,.int .i64 (↑i:Int))]∧zm=(Zn (inB l t.no))-((↑i:Int)).toNat∧Below w.heap.size w V∧Blk V b1 ([.slice none 0 0,.slice none 0 0,.int .i64 0,.int .i64 0,.slice none 0 0]) 87∧Blk V b2 ([.slice pe2 (s.es.length+i) ce2,.slice px75 ((s.bs++[t.no]).length) cx75,.int .i64 (↑(t.way.length+1):Int),.int .i64 (↑(s.looked+1):Int),.slice pf fv.length cf]) 87∧Blk V b7 ([.int .i64 t.no,.int .i64 t.lo,.int .i64 t.hi,.slice t.wa t.way.length t.wc,.int .i64 t.ft]) 184∧Blk V b70 ([.int .i64 (Xr (inB l t.no)),.bool (Xl (inB l t.no)),.slice kp (Zn (inB l t.no)) kc,.slice vp (Zn (inB l t.no)) vc]) 188∧Blk V b71 ([.slice none 0 0,.int .i64 0]) 43∧V.ownsRow w.heap.size 77 3 (.slice pe2 (s.es.length+i) ce2) (s.es.length+i) ((s.es++Ks (Xs l t.no) (Vb l t.no) t.no i).flatMap Ko)∧RefI B bm p k c l V∧V.ownsRow w.heap.size 43 2 (.slice pf fv.length cf) fv.length (fv.flatMap Za4)∧Cr w.heap.size V aw cw ts∧Yc w.heap.size V (.slice px75 ((s.bs++[t.no]).length) cx75) ((t::r).map Zf9++fv.map fltK)∧V.ownsRow w.heap.size 9 1 (.slice vp (Zn (inB l t.no)) vc) (Zn (inB l t.no)) ((Vb l t.no).map sv)∧V.ownsRow w.heap.size 3 1 (.slice kp (Zn (inB l t.no)) kc) (Zn (inB l t.no)) ((Xs l t.no).map (Value.int .i64))∧V.ownsRow w.heap.size 3 1 (.slice px75 ((s.bs++[t.no]).length) cx75) ((s.bs++[t.no]).length) ((s.bs++[t.no]).map (Value.int .i64))∧i≤(Zn (inB l t.no))) ⟨0,pe,ce,rfl,rfl,hB'48,k5_b1'13,k78,k8'7,k72'2,k73'1,(by simpa [Ks] using hEn'13),hI'11,hFl'27,hWu,hKt'23,hv_'1,hk'3,o75'1,Nat.zero_le _⟩ ?_
   rintro _ _ W79 ⟨i,pe2,ce2,rfl,rfl,hB_79,k79_b1,k79_b2,k79_b7,k79_b70,k79_b71,hE,hI,hFl,hWu,hKt,hv_,hk,o75,hi⟩ J79 hJ79 r79
   refine xb 5 2 k79_b70 ?_
   refine xid 4 ((↑i:Int)<(↑(Zn (inB l t.no)):Int)) (fun hc80=>?_) (fun hc80=>?_)
   ·refine xd 4 (.t w.heap.size [77,87]) ?_
    have k79_b70'1:=k79_b70.below (Za W79)
    refine xbt (.e [0,2] 3) 2 w.heap.size [77,87] k79_b70'1 ?_
    have hk'4:=Zb hk (Za W79)
    refine xx (.e [4] 5) _ (Zn (inB l t.no)) i 1 (IntsN.elem (l:=Xs l t.no) (Zf hk'4) (Yr _ _) (k:=i) (by omega)).1 ?_
    refine xlt (.e [] 6) (.t w.heap.size [77,87]) (fun V hV=>(IntsN.elem (l:=Xs l t.no) (Zf (Zl hk'4 hV.2 (by decide))) (Yr _ _) (k:=i) (by omega)).2) ?_
    refine xbt (.e [7] 8) 3 w.heap.size [77,87] k79_b70'1 ?_
    have hv_'2:=Zb hv_ (Za W79)
    refine xx (.e [9] 10) _ (Zn (inB l t.no)) i 1 (Strs.elem (V:=Vb l t.no) (Zf hv_'2) (Vo _ _) (k:=i) (by omega)).1 ?_
    refine xlt (.e [] 11) (.t w.heap.size [77,87]) (fun V hV=>(Strs.elem (V:=Vb l t.no) (Zf (Zl hv_'2 hV.2 (by decide))) (Vo _ _) (k:=i) (by omega)).2) ?_
    have k79_b7'1:=k79_b7.below (Za W79)
    refine xbt (.e [12] 13) 0 w.heap.size [77,87] k79_b7'1 ?_
    refine xm2 (.b [14]) 1 15 ?_ ?_
    ·have k79_b2'1:=k79_b2.below (Za W79)
     refine xb 0 0 k79_b2'1 ?_
     refine xbs (.o [] 15) 1 [.int .i64 ((Xs l t.no).getD i 0),.string ⟨((Vb l t.no).getD i []).toArray⟩,.int .i64 t.no] 77 fun b81 W81 n81=>?_
     have hB'49:=bln hB_79 (Za W79)
     have g81:=n81.ge hB'49
     have hE'1:=Zb hE (Za W79)
     have r81_hE:=Zu hE'1 n81
     have hE'2:=Zb hE'1 n81.below
     have hB'50:=bln hB'49 n81.below
     refine ybi (.o [] 16) (.t w.heap.size [77,87]) fun _ _ _ _ zJ zQ zo zx zy zK=>Zp (m:=1) (news:=[.int .i64 ((Xs l t.no).getD i 0),.string ⟨((Vb l t.no).getD i []).toArray⟩,.int .i64 t.no]) (.agg #[.int .i64 0,.string ⟨#[]⟩,.int .i64 0]) 3 32 ((s.es.length+(i+1))) (((s.es++Ks (Xs l t.no) (Vb l t.no) t.no (i+1)).flatMap Ko)) zo Tryz.underlying67 (by kernel_rfl) rfl (by decide) zx hE'2 zy (n81.blk.sl 1 1 (by decide) (by decide)) rfl (by simp[Value.oneCell']) (by unfold maxLen;omega) (by omega) hB'50.size (by omega) (Em _ _ _ _ _) fun px82 cx82 W82 o82 hg82 hb82=>?_
     refine zK _ _ (Zr hb82 hg82 hE'2 (by decide)) ?_
     have k79_b2'2:=(k79_b2'1.below n81.below).grown hg82 hE'2 (by decide)
     refine ys (.o [17] 18) k79_b2'2 [.slice px82 (s.es.length+(i+1)) cx82,.slice px75 ((s.bs++[t.no]).length) cx75,.int .i64 (↑(t.way.length+1):Int),.int .i64 (↑(s.looked+1):Int),.slice pf fv.length cf] (.t w.heap.size [77,87]) fun W83 u83 k83=>⟨(Zi u83 k79_b2'2 g2 (by decide)),?_⟩
     refine xwm 5 ((↑i:Int)+1) (↑(i+1):Int) ?_
     have hB'51:=u83.below (hB'50.trans hb82) g2
     have k79_b1'1:=u83.blk (((k79_b1.below (Za W79)).below n81.below).grown hg82 hE'2 (by decide)) (Ne.symm (Ne.symm d2_b1))
     have k79_b7'2:=u83.blkT ((k79_b7'1.below n81.below).grown hg82 hE'2 (by decide)) k79_b2'2 (by decide)
     have k79_b70'2:=u83.blkT ((k79_b70'1.below n81.below).grown hg82 hE'2 (by decide)) k79_b2'2 (by decide)
     have k79_b71'1:=u83.blkT (((k79_b71.below (Za W79)).below n81.below).grown hg82 hE'2 (by decide)) k79_b2'2 (by decide)
     have o82'1:=u83.own2 o82 k79_b2'2 (by decide)
     have hI'12:=(((hI.below (Za W79)).below n81.below).only (Ze.of_grown (T:=[77]) hg82 hE'2 (by decide)) (by decide)).only (Ze.of_upd (T:=[87]) u83 k79_b2'2 (by decide)) (by decide)
     have hFl'28:=u83.own2 (Zg (Zb (Zb hFl (Za W79)) n81.below) hg82 hE'2 (by decide)) k79_b2'2 (by decide)
     have hWu'1:=(((hWu.below (Za W79)).below n81.below).only (Ze.of_grown (T:=[77]) hg82 hE'2 (by decide)) (by decide)).only (Ze.of_upd (T:=[87]) u83 k79_b2'2 (by decide)) (by decide)
     have hKt'24:=(((hKt.below (Za W79)).below n81.below).only (Ze.of_grown (T:=[77]) hg82 hE'2 (by decide)) (by decide)).only (Ze.of_upd (T:=[87]) u83 k79_b2'2 (by decide)) (by decide)
     have hv_'3:=u83.own2 (Zg (Zb hv_'2 n81.below) hg82 hE'2 (by decide)) k79_b2'2 (by decide)
     have hk'5:=u83.own2 (Zg (Zb hk'4 n81.below) hg82 hE'2 (by decide)) k79_b2'2 (by decide)
     have o75'2:=u83.own2 (Zg (Zb (Zb o75 (Za W79)) n81.below) hg82 hE'2 (by decide)) k79_b2'2 (by decide)
     exact ze 2 (hJ79 _ _ _ ⟨i+1,_,_,rfl,rfl,hB'51,k79_b1'1,k83,k79_b7'2,k79_b70'2,k79_b71'1,o82'1,hI'12,hFl'28,hWu'1,hKt'24,hv_'3,hk'5,o75'2,by omega⟩ (by omega))
    refine xbs 0 1 [.int .i64 ((Xs l t.no).getD i 0),.string ⟨((Vb l t.no).getD i []).toArray⟩,.int .i64 t.no] 77 fun b84 W84 n84=>?_
    have hB'52:=bln hB_79 (Za W79)
    have g84:=n84.ge hB'52
    have hE'3:=Zb hE (Za W79)
    have r84_hE:=Zu hE'3 n84
    have k79_b2'3:=(k79_b2.below (Za W79)).below n84.below
    refine xb (.o [] 1) 0 k79_b2'3 ?_
    have hE'4:=Zb hE'3 n84.below
    have hB'53:=bln hB'52 n84.below
    refine ybi (.o [] 16) (.t w.heap.size [77,87]) fun _ _ _ _ zJ zQ zo zx zy zK=>Zp (m:=1) (news:=[.int .i64 ((Xs l t.no).getD i 0),.string ⟨((Vb l t.no).getD i []).toArray⟩,.int .i64 t.no]) (.agg #[.int .i64 0,.string ⟨#[]⟩,.int .i64 0]) 3 32 ((s.es.length+(i+1))) (((s.es++Ks (Xs l t.no) (Vb l t.no) t.no (i+1)).flatMap Ko)) zo Tryz.underlying67 (by kernel_rfl) rfl (by decide) zx hE'4 zy (n84.blk.sl 1 1 (by decide) (by decide)) rfl (by simp[Value.oneCell']) (by unfold maxLen;omega) (by omega) hB'53.size (by omega) (Em _ _ _ _ _) fun px85 cx85 W85 o85 hg85 hb85=>?_
    refine zK _ _ (Zr hb85 hg85 hE'4 (by decide)) ?_
    have k79_b2'4:=k79_b2'3.grown hg85 hE'4 (by decide)
    refine ys (.o [17] 18) k79_b2'4 [.slice px85 (s.es.length+(i+1)) cx85,.slice px75 ((s.bs++[t.no]).length) cx75,.int .i64 (↑(t.way.length+1):Int),.int .i64 (↑(s.looked+1):Int),.slice pf fv.length cf] (.t w.heap.size [77,87]) fun W86 u86 k86=>⟨(Zi u86 k79_b2'4 g2 (by decide)),?_⟩
    refine xwm 5 ((↑i:Int)+1) (↑(i+1):Int) ?_
    have hB'54:=u86.below (hB'53.trans hb85) g2
    have k79_b1'2:=u86.blk (((k79_b1.below (Za W79)).below n84.below).grown hg85 hE'4 (by decide)) (Ne.symm (Ne.symm d2_b1))
    have k79_b7'3:=u86.blkT ((k79_b7'1.below n84.below).grown hg85 hE'4 (by decide)) k79_b2'4 (by decide)
    have k79_b70'3:=u86.blkT ((k79_b70'1.below n84.below).grown hg85 hE'4 (by decide)) k79_b2'4 (by decide)
    have k79_b71'2:=u86.blkT (((k79_b71.below (Za W79)).below n84.below).grown hg85 hE'4 (by decide)) k79_b2'4 (by decide)
    have o85'1:=u86.own2 o85 k79_b2'4 (by decide)
    have hI'13:=(((hI.below (Za W79)).below n84.below).only (Ze.of_grown (T:=[77]) hg85 hE'4 (by decide)) (by decide)).only (Ze.of_upd (T:=[87]) u86 k79_b2'4 (by decide)) (by decide)
    have hFl'29:=u86.own2 (Zg (Zb (Zb hFl (Za W79)) n84.below) hg85 hE'4 (by decide)) k79_b2'4 (by decide)
    have hWu'2:=(((hWu.below (Za W79)).below n84.below).only (Ze.of_grown (T:=[77]) hg85 hE'4 (by decide)) (by decide)).only (Ze.of_upd (T:=[87]) u86 k79_b2'4 (by decide)) (by decide)
    have hKt'25:=(((hKt.below (Za W79)).below n84.below).only (Ze.of_grown (T:=[77]) hg85 hE'4 (by decide)) (by decide)).only (Ze.of_upd (T:=[87]) u86 k79_b2'4 (by decide)) (by decide)
    have hv_'4:=u86.own2 (Zg (Zb hv_'2 n84.below) hg85 hE'4 (by decide)) k79_b2'4 (by decide)
    have hk'6:=u86.own2 (Zg (Zb hk'4 n84.below) hg85 hE'4 (by decide)) k79_b2'4 (by decide)
    have o75'3:=u86.own2 (Zg (Zb (Zb o75 (Za W79)) n84.below) hg85 hE'4 (by decide)) k79_b2'4 (by decide)
    exact ze 2 (hJ79 _ _ _ ⟨i+1,_,_,rfl,rfl,hB'54,k79_b1'2,k86,k79_b7'3,k79_b70'3,k79_b71'2,o85'1,hI'13,hFl'29,hWu'2,hKt'25,hv_'4,hk'6,o75'3,by omega⟩ (by omega))
   refine xv1 8 10 (show(.slice (Qm aw 1 cw 5) (ts.length-1) (cw-1):Value)=.slice (Qm aw 1 cw 5) r.length (cw-1) from by rw[htr];rfl) ?_
   have hin:i=(Zn (inB l t.no)):=by omega
   have hk9:=k79_b2
   have hEe:=hE
   rw[hin] at hk9 hEe
   refine ze 0 (hJ5 _ _ _ ⟨{ s with looked:=s.looked+1,bs:=s.bs++[t.no],deep:=((t.way.length+1:Nat):Int),es:=s.es++Ks (Xs l t.no) (Vb l t.no) t.no (Zn (inB l t.no)) },r,pe2,px75,pf,ce2,cx75,cf,fv,(Qm aw 1 cw 5),(cw-1),rfl,rfl,hB_79,k79_b1,(by simpa [Gl] using hk9),(by simpa [Gl] using hEe),o75,hFl,(Bo.tail (Cr.at_ hWu) htr),hKt.drop1,hI,hwo1.leaf hft hfs hle hlf,hfv⟩ ?_)
   show 20*(fuel.toNat-(s.looked+1))+r.length<20*(fuel.toNat-s.looked)+ts.length
   omega
  have hlf:=hc77
  have o75'4:=u76.own2 o75 k49'10 (by decide)
  have hBlF:=o75'4
  have hKt'26:=(((((((hKt'15.below hb50).below n70.below).below n71.below).only (Ze.of_upd (T:=[188]) u72 k70 (by decide)) (by decide)).only (Ze.of_upd (T:=[43]) u73 k71 (by decide)) (by decide)).below n74.below).grow hBl'19 hg75 ha75).only (Ze.of_upd (T:=[87]) u76 k49'10 (by decide)) (by decide)
  have hway0:=(Yc.hd hKt'26).ints
  have hB'55:=u76.below (hB'47.trans hb75) g2
  have hF87:=hB'55
  refine xd 3 (.t W76.heap.size [3]) ?_
  have k8_hF87:=u76.blkT ((k8'5.below n74.below).grown hg75 hBl'19 (by decide)) k49'10 (by decide)
  have hB:=(Za W76)
  refine xlt (.e [1] 2) (.t W76.heap.size [3]) (fun V hV=>((k8_hF87.below (Ky hB hV (Nat.le_refl _))).cell (i:=3) rfl)) ?_
  refine xlt (.e [4] 5) (.t W76.heap.size [3]) (fun V hV=>((k8_hF87.below (Ky hB hV (Nat.le_refl _))).cell (i:=0) rfl)) ?_
  refine xm2 0 0 6 ?_ ?_
  ·refine xb0 0 3 fun b88 W88 n88=>?_
   have g88:=n88.ge hB
   refine xm2 0 3 6 ?_ ?_
   ·have o88:=Zw (size:=1) (n:=0) n88.blk g88 rfl (by decide)
    have hB'56:=bln hB n88.below
    refine ybi 0 (.t W76.heap.size [3]) fun _ _ _ _ zJ zQ zo zx zy zK=>Zp (m:=t.way.length) (news:=(t.way.map (Value.int .i64))) (.int .i64 0) 1 8 (t.way.length) ((t.way.map (Value.int .i64))) zo Tryz.underlying30 (by kernel_rfl) rfl (by decide) zx o88 zy (hway0.below hB'56) (by simp) (Kl _) (by unfold maxLen;omega) (by omega) hB'56.size (by omega) (by rfl) fun px89 cx89 W89 o89 hg89 hb89=>?_
    refine zK _ _ (Zr hb89 hg89 o88 (by decide)) ?_
    refine xbs (.o [] 6) 1 [.int .i64 t.no] 3 fun b90 W90 n90=>?_
    have hB'57:=hB'56.trans hb89
    have g90:=n90.ge hB'57
    have r90_o89:=Zu o89 n90
    have o89'1:=Zb o89 n90.below
    have hB'58:=bln hB'57 n90.below
    refine ybi (.o [] 7) (.t W76.heap.size [3]) fun _ _ _ _ zJ zQ zo zx zy zK=>Zp (m:=1) (news:=[.int .i64 t.no]) (.int .i64 0) 1 8 ((t.way++[t.no]).length) (((t.way++[t.no]).map (Value.int .i64))) zo Tryz.underlying30 (by kernel_rfl) rfl (by decide) zx o89'1 zy (n90.blk.sl 1 1 (by decide) (by decide)) rfl (by simp[Value.oneCell']) (by unfold maxLen;omega) (by omega) hB'58.size (by simp) (by simp) fun px91 cx91 W91 o91 hg91 hb91=>?_
    refine zK _ _ (Zr hb91 hg91 o89'1 (by decide)) ?_
    have hB'59:=hB'58.trans hb91
    refine zl (.r [8] 14) 186 (fun zm zkv V=>∃ (i:Nat) (pq:Option Addr) (cq:Nat),zkv=[(0,.pointer (some ⟨bm,0,none⟩)),(2,.int .i64 tree),(3,.int .i64 fuel),(8,.pointer (some ⟨b1,0,none⟩)),(9,.pointer (some ⟨b2,0,none⟩)),(10,.slice (Qm aw 1 cw 5) (ts.length-1) (cw-1)),(11,.pointer (some ⟨b7,0,none⟩)),(12,.pointer (some ⟨b70,0,none⟩)),(15,.slice px91 ((t.way++[t.no]).length) cx91),(16,.slice pq i cq),(17,.int .i64 (↑i:Int))]∧zm=(Zn (inB l t.no))-((↑i:Int)).toNat∧Below W76.heap.size W76 V∧V.ownsRow W76.heap.size 184 5 (.slice pq i cq) i ((Yt l t px91 cx91 i).flatMap wtC)∧V.ownsRow W76.heap.size 3 1 (.slice px91 ((t.way++[t.no]).length) cx91) ((t.way++[t.no]).length) ((t.way++[t.no]).map (Value.int .i64))∧i≤(Zn (inB l t.no))) ⟨0,_,_,rfl,rfl,hB'59,World.ownsRow_nil _ _ _ _,o91,Nat.zero_le _⟩ ?_
    rintro _ _ W92 ⟨i,pq,cq,rfl,rfl,hB_92,hB_,o91,hi⟩ J92 hJ92 r92
    refine xl 5 ((k72'1.below hB_92).cell (i:=2) rfl) ?_
    refine xid 4 ((↑i:Int)<(↑(Zn (inB l t.no)):Int)) (fun hc93=>?_) (fun hc93=>?_)
    ·refine xl 7 ((k72'1.below hB_92).cell (i:=3) rfl) ?_
     have hv__hF87:=Zf (u76.own2 (Zg (Zb (u73.own2 (u72.own2 (Zb (Zb (Zd hv_ hB'29.size) n70.below) n71.below) k70 (by decide)) k71 (by decide)) n74.below) hg75 hBl'19 (by decide)) k49'10 (by decide))
     refine xx 1 _ (Zn (inB l t.no)) i 1 (Strs.elem (V:=Vb l t.no) hv__hF87 (Vo _ _) (k:=i) (by omega)).1 ?_
     refine xl 0 ((Strs.elem (V:=Vb l t.no) (hv__hF87.below hB_92) (Vo _ _) (k:=i) (by omega)).2) ?_
     refine xr 0 (args:=#[.string ⟨((Vb l t.no).getD i []).toArray⟩]) (Cm ((Vb l t.no).getD i []) _ (Hx _ _ _)) fun W94 hb94=>?_
     refine xin 14 (Yw ((Vb l t.no).getD i [])) (0:Int) (fun hc95=>?_) (fun hc95=>?_)
     ·have hrt:=hc95
      have hB'60:=bln hB_92 hb94
      refine xl 4 ((k8_hF87.below hB'60).cell (i:=0) rfl) ?_
      refine xl 1 ((k8_hF87.below hB'60).cell (i:=3) rfl) ?_
      refine xbs 2 1 [.int .i64 t.no,.int .i64 0,.int .i64 0,.slice t.wa t.way.length t.wc,.int .i64 (Yw ((Vb l t.no).getD i []))] 184 fun b96 W96 n96=>?_
      have g96:=n96.ge hB'60
      have hB_'1:=Zb hB_ hb94
      have r96_hB_:=Zu hB_'1 n96
      have hB_'2:=Zb hB_'1 n96.below
      have hB'61:=bln hB'60 n96.below
      refine xbi 0 fun _ _ _ _ zJ zQ zo zx zy zK=>Zp (m:=1) (news:=[.int .i64 t.no,.int .i64 0,.int .i64 0,.slice t.wa t.way.length t.wc,.int .i64 (Yw ((Vb l t.no).getD i []))]) (.agg #[.int .i64 0,.int .i64 0,.int .i64 0,.slice none 0 0,.int .i64 0]) 5 56 (i+1) (((Yt l t px91 cx91 (i+1)).flatMap wtC)) zo Tryz.underlying185 (by kernel_rfl) rfl (by decide) zx hB_'2 zy (n96.blk.sl 1 1 (by decide) (by decide)) rfl (by simp[Value.oneCell']) (by unfold maxLen;omega) (by omega) hB'61.size (by rfl) (by rw[Jl,List.flatMap_append,show Ke l t px91 cx91 i=⟨t.no,0,0,t.way,Yw ((Vb l t.no).getD i []),t.wa,t.wc⟩ from by unfold Ke;rw[if_neg hrt]];rfl) fun px97 cx97 W97 o97 hg97 hb97=>?_
      refine zK _ _ ?_
      refine xwm 9 ((↑i:Int)+1) (↑(i+1):Int) ?_
      have hB'62:=hB'61.trans hb97
      have o91'1:=Zg (Zb (Zb o91 hb94) n96.below) hg97 hB_'2 (by decide)
      exact ze 2 (hJ92 _ _ _ ⟨i+1,_,_,rfl,rfl,hB'62,o97,o91'1,by omega⟩ (by omega))
     have hrt:=hc95
     have hB'63:=bln hB_92 hb94
     refine xlv 5 ((k8_hF87.below hB'63).rpp 1 2) ?_
     refine xl 1 ((k72'1.below hB'63).cell (i:=2) rfl) ?_
     have hkl:(Xs l t.no).length=(Zn (inB l t.no)):=Yr _ _
     have hci:=En (Hw hle).2.1 (i:=i) (by rw[hkl];omega)
     have hk_hF87:=Zf (u76.own2 hkq75 k49'10 (by decide))
     refine xr 1 (args:=#[.agg #[.int .i64 t.lo,.int .i64 t.hi],.slice kp (Zn (inB l t.no)) kc,.int .i64 (↑i:Int)]) ((Wl t.lo t.hi (↑i:Int) _ (Xs l t.no) _ ⟨by omega,by omega⟩ (by rw[hkl];omega) (Ps (hk_hF87.below hB'63) hkl)).mono (fun _ _ h=>by rw[hci] at h;exact h)) fun W98 hb98=>?_
     refine xa 3 [.int .i64 0,.int .i64 0] 173 fun b99 W99 n99=>?_
     have hB'64:=bln hB'63 hb98
     have g99:=n99.ge hB'64
     refine xsv 0 n99.blk [.int .i64 ((Xb t.hi (Xs l t.no) i).1),.int .i64 ((Xb t.hi (Xs l t.no) i).2)] fun W100 u100 k100=>?_
     refine xlv 6 k100.rp ?_
     refine xbs 2 1 [.int .i64 (↑(Kc ((Vb l t.no).getD i [])):Int),.int .i64 ((Xb t.hi (Xs l t.no) i).1),.int .i64 ((Xb t.hi (Xs l t.no) i).2),.slice px91 ((t.way++[t.no]).length) cx91,.int .i64 0] 184 fun b101 W101 n101=>?_
     have hB'65:=u100.below (bln hB'64 n99.below) g99
     have g101:=n101.ge hB'65
     have hB_'3:=u100.own2 (Zb (Zb (Zb hB_ hb94) hb98) n99.below) n99.blk (by decide)
     have r101_hB_:=Zu hB_'3 n101
     have hB_'4:=Zb hB_'3 n101.below
     have hB'66:=bln hB'65 n101.below
     refine xbi 0 fun _ _ _ _ zJ zQ zo zx zy zK=>Zp (m:=1) (news:=[.int .i64 (↑(Kc ((Vb l t.no).getD i [])):Int),.int .i64 ((Xb t.hi (Xs l t.no) i).1),.int .i64 ((Xb t.hi (Xs l t.no) i).2),.slice px91 ((t.way++[t.no]).length) cx91,.int .i64 0]) (.agg #[.int .i64 0,.int .i64 0,.int .i64 0,.slice none 0 0,.int .i64 0]) 5 56 (i+1) (((Yt l t px91 cx91 (i+1)).flatMap wtC)) zo Tryz.underlying185 (by kernel_rfl) rfl (by decide) zx hB_'4 zy (n101.blk.sl 1 1 (by decide) (by decide)) rfl (by simp[Value.oneCell']) (by unfold maxLen;omega) (by omega) hB'66.size (by rfl) (by rw[Jl,List.flatMap_append,show Ke l t px91 cx91 i=⟨Kc ((Vb l t.no).getD i []),(Xb t.hi (Xs l t.no) i).1,(Xb t.hi (Xs l t.no) i).2,t.way++[t.no],0,px91,cx91⟩ from by unfold Ke;rw[if_pos hrt]];rfl) fun px102 cx102 W102 o102 hg102 hb102=>?_
     refine zK _ _ ?_
     refine xwm 6 ((↑i:Int)+1) (↑(i+1):Int) ?_
     have hB'67:=hB'66.trans hb102
     have o91'2:=Zg (Zb (u100.own2 (Zb (Zb (Zb o91 hb94) hb98) n99.below) n99.blk (by decide)) n101.below) hg102 hB_'4 (by decide)
     exact ze 2 (hJ92 _ _ _ ⟨i+1,_,_,rfl,rfl,hB'67,o102,o91'2,by omega⟩ (by omega))
    have hWs_hF87:=((((((((((hWs.below n7.below).updN u8 n7 rfl).only (Ze.of_upd (T:=[87]) u49 k5_b2'9 (by decide)) (by decide)).below hb50).below n70.below).below n71.below).only (Ze.of_upd (T:=[188]) u72 k70 (by decide)) (by decide)).only (Ze.of_upd (T:=[43]) u73 k71 (by decide)) (by decide)).below n74.below).only (Ze.of_grown (T:=[3]) hg75 hBl'19 (by decide)) (by decide)).only (Ze.of_upd (T:=[87]) u76 k49'10 (by decide)) (by decide)
    refine xbi 8 fun _ _ _ _ zJ zQ zo zx zy zK=>Zp (m:=(ts.length-1)) (news:=(r.flatMap wtC)) (.agg #[.int .i64 0,.int .i64 0,.int .i64 0,.slice none 0 0,.int .i64 0]) 5 56 ((Yt l t px91 cx91 (Zn (inB l t.no))++r).length) (((Yt l t px91 cx91 (Zn (inB l t.no))++r).flatMap wtC)) zo Tryz.underlying185 (by kernel_rfl) rfl (by decide) zx hB_ zy ((hWs_hF87.below hB_92).slN htr) (by rw[Gd Cc,htl];rfl) (wt_one r) (by unfold maxLen;omega) (by omega) hB_92.size (by rw[List.length_append,Jk,htl];omega) (by rw[List.flatMap_append,show i=(Zn (inB l t.no)) by omega]) fun px103 cx103 W103 o103 hg103 hb103=>?_
    refine zK _ _ ?_
    have o91'3:=Zg o91 hg103 hB_ (by decide)
    have hApW:=(Kr.of_lt hBlF o91'3 (Nat.le_refl _)).symm
    have hB'68:=hB_92.trans hb103
    have hT104:Below W76.heap.size W76 W103:=hB'68
    have hs104:w.heap.size≤W76.heap.size:=hF87.size
    have o103'1:=Zd o103 hs104
    have hKt'27:=hKt'26.below hT104
    have o91'4:=Zd o91'3 hs104
    have hB:=bln hF87 hT104
    have k5_b1'14:=(u76.blk (((u73.blkT (u72.blkT ((((u49.blk (u8.blkT (k5_b1.below n7.below) n7.blk (by decide)) (Ne.symm (Ne.symm d2_b1))).below hb50).below n70.below).below n71.below) k70 (by decide)) k71 (by decide)).below n74.below).grown hg75 hBl'19 (by decide)) (Ne.symm (Ne.symm d2_b1))).below hT104
    have k76'1:=k76.below hT104
    have hEn'14:=Zb (u76.own2 (Zg (Zb (u73.own2 (u72.own2 (Zb (Zb (Zb (u49.own2 (u8.own2 (Zb hEn n7.below) n7.blk (by decide)) k5_b2'9 (by decide)) hb50) n70.below) n71.below) k70 (by decide)) k71 (by decide)) n74.below) hg75 hBl'19 (by decide)) k49'10 (by decide)) hT104
    have o75'5:=Zb o75'4 hT104
    have hFl'30:=Zb (u76.own2 (Zg (Zb (u73.own3 (u72.own2 (Zb hFl'26 n71.below) k70 (by decide)) r71_hFl) n74.below) hg75 hBl'19 (by decide)) k49'10 (by decide)) hT104
    have hI'14:=((((((((hI'6.below hb50).below n70.below).below n71.below).only (Ze.of_upd (T:=[188]) u72 k70 (by decide)) (by decide)).only (Ze.of_upd (T:=[43]) u73 k71 (by decide)) (by decide)).below n74.below).only (Ze.of_grown (T:=[3]) hg75 hBl'19 (by decide)) (by decide)).only (Ze.of_upd (T:=[87]) u76 k49'10 (by decide)) (by decide)).below hT104
    refine ze 3 (hJ5 _ _ _ ⟨{ s with looked:=s.looked+1,bs:=s.bs++[t.no] },(Yt l t px91 cx91 (Zn (inB l t.no))++r),pe,px75,pf,ce,cx75,cf,fv,px103,cx103,rfl,rfl,hB,k5_b1'14,k76'1,hEn'14,o75'5,hFl'30,(Cr.of o103'1 rfl),(Yc.below_visits hKt'27 o91'4 hApW),hI'14,hwo1.inner px91 cx91 hft hfs hle hlf,hfv⟩ ?_)
    show 20*(fuel.toNat-(s.looked+1))+(Yt l t px91 cx91 (Zn (inB l t.no))++r).length<20*(fuel.toNat-s.looked)+ts.length
    rw[List.length_append,Jk,htl]
    omega
   refine xbs 0 1 [.int .i64 t.no] 3 fun b105 W105 n105=>?_
   have hB'69:=bln hB n88.below
   have g105:=n105.ge hB'69
   have o88:=Zw (size:=1) (n:=0) n88.blk g88 rfl (by decide)
   have r105_o88:=Zu o88 n105
   have o88'1:=Zb o88 n105.below
   have hB'70:=bln hB'69 n105.below
   refine ybi (.o [] 3) (.t W76.heap.size [3]) fun _ _ _ _ zJ zQ zo zx zy zK=>Zp (m:=t.way.length) (news:=(t.way.map (Value.int .i64))) (.int .i64 0) 1 8 (t.way.length) ((t.way.map (Value.int .i64))) zo Tryz.underlying30 (by kernel_rfl) rfl (by decide) zx o88'1 zy (hway0.below hB'70) (by simp) (Kl _) (by unfold maxLen;omega) (by omega) hB'70.size (by omega) (by rfl) fun px106 cx106 W106 o106 hg106 hb106=>?_
   refine zK _ _ (Zr hb106 hg106 o88'1 (by decide)) ?_
   have k105:=n105.blk.grown3 hg106 r105_o88
   have hB'71:=hB'70.trans hb106
   refine ybi (.o [] 7) (.t W76.heap.size [3]) fun _ _ _ _ zJ zQ zo zx zy zK=>Zp (m:=1) (news:=[.int .i64 t.no]) (.int .i64 0) 1 8 ((t.way++[t.no]).length) (((t.way++[t.no]).map (Value.int .i64))) zo Tryz.underlying30 (by kernel_rfl) rfl (by decide) zx o106 zy (k105.sl 1 1 (by decide) (by decide)) rfl (by simp[Value.oneCell']) (by unfold maxLen;omega) (by omega) hB'71.size (by simp) (by simp) fun px107 cx107 W107 o107 hg107 hb107=>?_
   refine zK _ _ (Zr hb107 hg107 o106 (by decide)) ?_
   have hB'72:=hB'71.trans hb107
   refine zl (.r [8] 14) 186 (fun zm zkv V=>∃ (i:Nat) (pq:Option Addr) (cq:Nat),zkv=[(0,.pointer (some ⟨bm,0,none⟩)),(2,.int .i64 tree),(3,.int .i64 fuel),(8,.pointer (some ⟨b1,0,none⟩)),(9,.pointer (some ⟨b2,0,none⟩)),(10,.slice (Qm aw 1 cw 5) (ts.length-1) (cw-1)),(11,.pointer (some ⟨b7,0,none⟩)),(12,.pointer (some ⟨b70,0,none⟩)),(15,.slice px107 ((t.way++[t.no]).length) cx107),(16,.slice pq i cq),(17,.int .i64 (↑i:Int))]∧zm=(Zn (inB l t.no))-((↑i:Int)).toNat∧Below W76.heap.size W76 V∧V.ownsRow W76.heap.size 184 5 (.slice pq i cq) i ((Yt l t px107 cx107 i).flatMap wtC)∧V.ownsRow W76.heap.size 3 1 (.slice px107 ((t.way++[t.no]).length) cx107) ((t.way++[t.no]).length) ((t.way++[t.no]).map (Value.int .i64))∧i≤(Zn (inB l t.no))) ⟨0,_,_,rfl,rfl,hB'72,World.ownsRow_nil _ _ _ _,o107,Nat.zero_le _⟩ ?_
   rintro _ _ W108 ⟨i,pq,cq,rfl,rfl,hB_108,hB_,o107,hi⟩ J108 hJ108 r108
   refine xl 5 ((k72'1.below hB_108).cell (i:=2) rfl) ?_
   refine xid 4 ((↑i:Int)<(↑(Zn (inB l t.no)):Int)) (fun hc109=>?_) (fun hc109=>?_)
   ·refine xl 7 ((k72'1.below hB_108).cell (i:=3) rfl) ?_
    have hv__hF87:=Zf (u76.own2 (Zg (Zb (u73.own2 (u72.own2 (Zb (Zb (Zd hv_ hB'29.size) n70.below) n71.below) k70 (by decide)) k71 (by decide)) n74.below) hg75 hBl'19 (by decide)) k49'10 (by decide))
    refine xx 1 _ (Zn (inB l t.no)) i 1 (Strs.elem (V:=Vb l t.no) hv__hF87 (Vo _ _) (k:=i) (by omega)).1 ?_
    refine xl 0 ((Strs.elem (V:=Vb l t.no) (hv__hF87.below hB_108) (Vo _ _) (k:=i) (by omega)).2) ?_
    refine xr 0 (args:=#[.string ⟨((Vb l t.no).getD i []).toArray⟩]) (Cm ((Vb l t.no).getD i []) _ (Hx _ _ _)) fun W110 hb110=>?_
    refine xin 14 (Yw ((Vb l t.no).getD i [])) (0:Int) (fun hc111=>?_) (fun hc111=>?_)
    ·have hrt:=hc111
     have hB'73:=bln hB_108 hb110
     refine xl 4 ((k8_hF87.below hB'73).cell (i:=0) rfl) ?_
     refine xl 1 ((k8_hF87.below hB'73).cell (i:=3) rfl) ?_
     refine xbs 2 1 [.int .i64 t.no,.int .i64 0,.int .i64 0,.slice t.wa t.way.length t.wc,.int .i64 (Yw ((Vb l t.no).getD i []))] 184 fun b112 W112 n112=>?_
     have g112:=n112.ge hB'73
     have hB_'5:=Zb hB_ hb110
     have r112_hB_:=Zu hB_'5 n112
     have hB_'6:=Zb hB_'5 n112.below
     have hB'74:=bln hB'73 n112.below
     refine xbi 0 fun _ _ _ _ zJ zQ zo zx zy zK=>Zp (m:=1) (news:=[.int .i64 t.no,.int .i64 0,.int .i64 0,.slice t.wa t.way.length t.wc,.int .i64 (Yw ((Vb l t.no).getD i []))]) (.agg #[.int .i64 0,.int .i64 0,.int .i64 0,.slice none 0 0,.int .i64 0]) 5 56 (i+1) (((Yt l t px107 cx107 (i+1)).flatMap wtC)) zo Tryz.underlying185 (by kernel_rfl) rfl (by decide) zx hB_'6 zy (n112.blk.sl 1 1 (by decide) (by decide)) rfl (by simp[Value.oneCell']) (by unfold maxLen;omega) (by omega) hB'74.size (by rfl) (by rw[Jl,List.flatMap_append,show Ke l t px107 cx107 i=⟨t.no,0,0,t.way,Yw ((Vb l t.no).getD i []),t.wa,t.wc⟩ from by unfold Ke;rw[if_neg hrt]];rfl) fun px113 cx113 W113 o113 hg113 hb113=>?_
     refine zK _ _ ?_
     refine xwm 9 ((↑i:Int)+1) (↑(i+1):Int) ?_
     have hB'75:=hB'74.trans hb113
     have o107'1:=Zg (Zb (Zb o107 hb110) n112.below) hg113 hB_'6 (by decide)
     exact ze 2 (hJ108 _ _ _ ⟨i+1,_,_,rfl,rfl,hB'75,o113,o107'1,by omega⟩ (by omega))
    have hrt:=hc111
    have hB'76:=bln hB_108 hb110
    refine xlv 5 ((k8_hF87.below hB'76).rpp 1 2) ?_
    refine xl 1 ((k72'1.below hB'76).cell (i:=2) rfl) ?_
    have hkl:(Xs l t.no).length=(Zn (inB l t.no)):=Yr _ _
    have hci:=En (Hw hle).2.1 (i:=i) (by rw[hkl];omega)
    have hk_hF87:=Zf (u76.own2 hkq75 k49'10 (by decide))
    refine xr 1 (args:=#[.agg #[.int .i64 t.lo,.int .i64 t.hi],.slice kp (Zn (inB l t.no)) kc,.int .i64 (↑i:Int)]) ((Wl t.lo t.hi (↑i:Int) _ (Xs l t.no) _ ⟨by omega,by omega⟩ (by rw[hkl];omega) (Ps (hk_hF87.below hB'76) hkl)).mono (fun _ _ h=>by rw[hci] at h;exact h)) fun W114 hb114=>?_
    refine xa 3 [.int .i64 0,.int .i64 0] 173 fun b115 W115 n115=>?_
    have hB'77:=bln hB'76 hb114
    have g115:=n115.ge hB'77
    refine xsv 0 n115.blk [.int .i64 ((Xb t.hi (Xs l t.no) i).1),.int .i64 ((Xb t.hi (Xs l t.no) i).2)] fun W116 u116 k116=>?_
    refine xlv 6 k116.rp ?_
    refine xbs 2 1 [.int .i64 (↑(Kc ((Vb l t.no).getD i [])):Int),.int .i64 ((Xb t.hi (Xs l t.no) i).1),.int .i64 ((Xb t.hi (Xs l t.no) i).2),.slice px107 ((t.way++[t.no]).length) cx107,.int .i64 0] 184 fun b117 W117 n117=>?_
    have hB'78:=u116.below (bln hB'77 n115.below) g115
    have g117:=n117.ge hB'78
    have hB_'7:=u116.own2 (Zb (Zb (Zb hB_ hb110) hb114) n115.below) n115.blk (by decide)
    have r117_hB_:=Zu hB_'7 n117
    have hB_'8:=Zb hB_'7 n117.below
    have hB'79:=bln hB'78 n117.below
    refine xbi 0 fun _ _ _ _ zJ zQ zo zx zy zK=>Zp (m:=1) (news:=[.int .i64 (↑(Kc ((Vb l t.no).getD i [])):Int),.int .i64 ((Xb t.hi (Xs l t.no) i).1),.int .i64 ((Xb t.hi (Xs l t.no) i).2),.slice px107 ((t.way++[t.no]).length) cx107,.int .i64 0]) (.agg #[.int .i64 0,.int .i64 0,.int .i64 0,.slice none 0 0,.int .i64 0]) 5 56 (i+1) (((Yt l t px107 cx107 (i+1)).flatMap wtC)) zo Tryz.underlying185 (by kernel_rfl) rfl (by decide) zx hB_'8 zy (n117.blk.sl 1 1 (by decide) (by decide)) rfl (by simp[Value.oneCell']) (by unfold maxLen;omega) (by omega) hB'79.size (by rfl) (by rw[Jl,List.flatMap_append,show Ke l t px107 cx107 i=⟨Kc ((Vb l t.no).getD i []),(Xb t.hi (Xs l t.no) i).1,(Xb t.hi (Xs l t.no) i).2,t.way++[t.no],0,px107,cx107⟩ from by unfold Ke;rw[if_pos hrt]];rfl) fun px118 cx118 W118 o118 hg118 hb118=>?_
    refine zK _ _ ?_
    refine xwm 6 ((↑i:Int)+1) (↑(i+1):Int) ?_
    have hB'80:=hB'79.trans hb118
    have o107'2:=Zg (Zb (u116.own2 (Zb (Zb (Zb o107 hb110) hb114) n115.below) n115.blk (by decide)) n117.below) hg118 hB_'8 (by decide)
    exact ze 2 (hJ108 _ _ _ ⟨i+1,_,_,rfl,rfl,hB'80,o118,o107'2,by omega⟩ (by omega))
   have hWs_hF87:=((((((((((hWs.below n7.below).updN u8 n7 rfl).only (Ze.of_upd (T:=[87]) u49 k5_b2'9 (by decide)) (by decide)).below hb50).below n70.below).below n71.below).only (Ze.of_upd (T:=[188]) u72 k70 (by decide)) (by decide)).only (Ze.of_upd (T:=[43]) u73 k71 (by decide)) (by decide)).below n74.below).only (Ze.of_grown (T:=[3]) hg75 hBl'19 (by decide)) (by decide)).only (Ze.of_upd (T:=[87]) u76 k49'10 (by decide)) (by decide)
   refine xbi 8 fun _ _ _ _ zJ zQ zo zx zy zK=>Zp (m:=(ts.length-1)) (news:=(r.flatMap wtC)) (.agg #[.int .i64 0,.int .i64 0,.int .i64 0,.slice none 0 0,.int .i64 0]) 5 56 ((Yt l t px107 cx107 (Zn (inB l t.no))++r).length) (((Yt l t px107 cx107 (Zn (inB l t.no))++r).flatMap wtC)) zo Tryz.underlying185 (by kernel_rfl) rfl (by decide) zx hB_ zy ((hWs_hF87.below hB_108).slN htr) (by rw[Gd Cc,htl];rfl) (wt_one r) (by unfold maxLen;omega) (by omega) hB_108.size (by rw[List.length_append,Jk,htl];omega) (by rw[List.flatMap_append,show i=(Zn (inB l t.no)) by omega]) fun px119 cx119 W119 o119 hg119 hb119=>?_
   refine zK _ _ ?_
   have o107'3:=Zg o107 hg119 hB_ (by decide)
   have hApW:=(Kr.of_lt hBlF o107'3 (Nat.le_refl _)).symm
   have hB'81:=hB_108.trans hb119
   have hT120:Below W76.heap.size W76 W119:=hB'81
   have hs120:w.heap.size≤W76.heap.size:=hF87.size
   have o119'1:=Zd o119 hs120
   have hKt'28:=hKt'26.below hT120
   have o107'4:=Zd o107'3 hs120
   have hB:=bln hF87 hT120
   have k5_b1'15:=(u76.blk (((u73.blkT (u72.blkT ((((u49.blk (u8.blkT (k5_b1.below n7.below) n7.blk (by decide)) (Ne.symm (Ne.symm d2_b1))).below hb50).below n70.below).below n71.below) k70 (by decide)) k71 (by decide)).below n74.below).grown hg75 hBl'19 (by decide)) (Ne.symm (Ne.symm d2_b1))).below hT120
   have k76'2:=k76.below hT120
   have hEn'15:=Zb (u76.own2 (Zg (Zb (u73.own2 (u72.own2 (Zb (Zb (Zb (u49.own2 (u8.own2 (Zb hEn n7.below) n7.blk (by decide)) k5_b2'9 (by decide)) hb50) n70.below) n71.below) k70 (by decide)) k71 (by decide)) n74.below) hg75 hBl'19 (by decide)) k49'10 (by decide)) hT120
   have o75'6:=Zb o75'4 hT120
   have hFl'31:=Zb (u76.own2 (Zg (Zb (u73.own3 (u72.own2 (Zb hFl'26 n71.below) k70 (by decide)) r71_hFl) n74.below) hg75 hBl'19 (by decide)) k49'10 (by decide)) hT120
   have hI'15:=((((((((hI'6.below hb50).below n70.below).below n71.below).only (Ze.of_upd (T:=[188]) u72 k70 (by decide)) (by decide)).only (Ze.of_upd (T:=[43]) u73 k71 (by decide)) (by decide)).below n74.below).only (Ze.of_grown (T:=[3]) hg75 hBl'19 (by decide)) (by decide)).only (Ze.of_upd (T:=[87]) u76 k49'10 (by decide)) (by decide)).below hT120
   refine ze 3 (hJ5 _ _ _ ⟨{ s with looked:=s.looked+1,bs:=s.bs++[t.no] },(Yt l t px107 cx107 (Zn (inB l t.no))++r),pe,px75,pf,ce,cx75,cf,fv,px119,cx119,rfl,rfl,hB,k5_b1'15,k76'2,hEn'15,o75'6,hFl'31,(Cr.of o119'1 rfl),(Yc.below_visits hKt'28 o107'4 hApW),hI'15,hwo1.inner px107 cx107 hft hfs hle hlf,hfv⟩ ?_)
   show 20*(fuel.toNat-(s.looked+1))+(Yt l t px107 cx107 (Zn (inB l t.no))++r).length<20*(fuel.toNat-s.looked)+ts.length
   rw[List.length_append,Jk,htl]
   omega
  refine xbs 0 1 [.int .i64 t.no] 3 fun b121 W121 n121=>?_
  have g121:=n121.ge hB
  refine xb0 (.o [] 0) 3 fun b122 W122 n122=>?_
  have d122_b121:=n122.ne n121.blk
  have hB'82:=bln hB n121.below
  have g122:=n122.ge hB'82
  have o122:=Zw (size:=1) (n:=0) n122.blk g122 rfl (by decide)
  have hB'83:=bln hB'82 n122.below
  refine ybi (.o [] 3) (.t W76.heap.size [3]) fun _ _ _ _ zJ zQ zo zx zy zK=>Zp (m:=t.way.length) (news:=(t.way.map (Value.int .i64))) (.int .i64 0) 1 8 (t.way.length) ((t.way.map (Value.int .i64))) zo Tryz.underlying30 (by kernel_rfl) rfl (by decide) zx o122 zy (hway0.below hB'83) (by simp) (Kl _) (by unfold maxLen;omega) (by omega) hB'83.size (by omega) (by rfl) fun px123 cx123 W123 o123 hg123 hb123=>?_
  refine zK _ _ (Zr hb123 hg123 o122 (by decide)) ?_
  have k121'1:=(n121.blk.below n122.below).grown3 hg123 (fun j hj=>by obtain rfl:b122=j:=Option.some.inj hj;exact(Ne.symm d122_b121))
  have hB'84:=hB'83.trans hb123
  refine ybi (.o [] 7) (.t W76.heap.size [3]) fun _ _ _ _ zJ zQ zo zx zy zK=>Zp (m:=1) (news:=[.int .i64 t.no]) (.int .i64 0) 1 8 ((t.way++[t.no]).length) (((t.way++[t.no]).map (Value.int .i64))) zo Tryz.underlying30 (by kernel_rfl) rfl (by decide) zx o123 zy (k121'1.sl 1 1 (by decide) (by decide)) rfl (by simp[Value.oneCell']) (by unfold maxLen;omega) (by omega) hB'84.size (by simp) (by simp) fun px124 cx124 W124 o124 hg124 hb124=>?_
  refine zK _ _ (Zr hb124 hg124 o123 (by decide)) ?_
  have hB'85:=hB'84.trans hb124
  refine zl (.r [8] 14) 186 (fun zm zkv V=>∃ (i:Nat) (pq:Option Addr) (cq:Nat),zkv=[(0,.pointer (some ⟨bm,0,none⟩)),(2,.int .i64 tree),(3,.int .i64 fuel),(8,.pointer (some ⟨b1,0,none⟩)),(9,.pointer (some ⟨b2,0,none⟩)),(10,.slice (Qm aw 1 cw 5) (ts.length-1) (cw-1)),(11,.pointer (some ⟨b7,0,none⟩)),(12,.pointer (some ⟨b70,0,none⟩)),(15,.slice px124 ((t.way++[t.no]).length) cx124),(16,.slice pq i cq),(17,.int .i64 (↑i:Int))]∧zm=(Zn (inB l t.no))-((↑i:Int)).toNat∧Below W76.heap.size W76 V∧V.ownsRow W76.heap.size 184 5 (.slice pq i cq) i ((Yt l t px124 cx124 i).flatMap wtC)∧V.ownsRow W76.heap.size 3 1 (.slice px124 ((t.way++[t.no]).length) cx124) ((t.way++[t.no]).length) ((t.way++[t.no]).map (Value.int .i64))∧i≤(Zn (inB l t.no))) ⟨0,_,_,rfl,rfl,hB'85,World.ownsRow_nil _ _ _ _,o124,Nat.zero_le _⟩ ?_
  rintro _ _ W125 ⟨i,pq,cq,rfl,rfl,hB_125,hB_,o124,hi⟩ J125 hJ125 r125
  refine xl 5 ((k72'1.below hB_125).cell (i:=2) rfl) ?_
  refine xid 4 ((↑i:Int)<(↑(Zn (inB l t.no)):Int)) (fun hc126=>?_) (fun hc126=>?_)
  ·refine xl 7 ((k72'1.below hB_125).cell (i:=3) rfl) ?_
   have hv__hF87:=Zf (u76.own2 (Zg (Zb (u73.own2 (u72.own2 (Zb (Zb (Zd hv_ hB'29.size) n70.below) n71.below) k70 (by decide)) k71 (by decide)) n74.below) hg75 hBl'19 (by decide)) k49'10 (by decide))
   refine xx 1 _ (Zn (inB l t.no)) i 1 (Strs.elem (V:=Vb l t.no) hv__hF87 (Vo _ _) (k:=i) (by omega)).1 ?_
   refine xl 0 ((Strs.elem (V:=Vb l t.no) (hv__hF87.below hB_125) (Vo _ _) (k:=i) (by omega)).2) ?_
   refine xr 0 (args:=#[.string ⟨((Vb l t.no).getD i []).toArray⟩]) (Cm ((Vb l t.no).getD i []) _ (Hx _ _ _)) fun W127 hb127=>?_
   refine xin 14 (Yw ((Vb l t.no).getD i [])) (0:Int) (fun hc128=>?_) (fun hc128=>?_)
   ·have hrt:=hc128
    have hB'86:=bln hB_125 hb127
    refine xl 4 ((k8_hF87.below hB'86).cell (i:=0) rfl) ?_
    refine xl 1 ((k8_hF87.below hB'86).cell (i:=3) rfl) ?_
    refine xbs 2 1 [.int .i64 t.no,.int .i64 0,.int .i64 0,.slice t.wa t.way.length t.wc,.int .i64 (Yw ((Vb l t.no).getD i []))] 184 fun b129 W129 n129=>?_
    have g129:=n129.ge hB'86
    have hB_'9:=Zb hB_ hb127
    have r129_hB_:=Zu hB_'9 n129
    have hB_'10:=Zb hB_'9 n129.below
    have hB'87:=bln hB'86 n129.below
    refine xbi 0 fun _ _ _ _ zJ zQ zo zx zy zK=>Zp (m:=1) (news:=[.int .i64 t.no,.int .i64 0,.int .i64 0,.slice t.wa t.way.length t.wc,.int .i64 (Yw ((Vb l t.no).getD i []))]) (.agg #[.int .i64 0,.int .i64 0,.int .i64 0,.slice none 0 0,.int .i64 0]) 5 56 (i+1) (((Yt l t px124 cx124 (i+1)).flatMap wtC)) zo Tryz.underlying185 (by kernel_rfl) rfl (by decide) zx hB_'10 zy (n129.blk.sl 1 1 (by decide) (by decide)) rfl (by simp[Value.oneCell']) (by unfold maxLen;omega) (by omega) hB'87.size (by rfl) (by rw[Jl,List.flatMap_append,show Ke l t px124 cx124 i=⟨t.no,0,0,t.way,Yw ((Vb l t.no).getD i []),t.wa,t.wc⟩ from by unfold Ke;rw[if_neg hrt]];rfl) fun px130 cx130 W130 o130 hg130 hb130=>?_
    refine zK _ _ ?_
    refine xwm 9 ((↑i:Int)+1) (↑(i+1):Int) ?_
    have hB'88:=hB'87.trans hb130
    have o124'1:=Zg (Zb (Zb o124 hb127) n129.below) hg130 hB_'10 (by decide)
    exact ze 2 (hJ125 _ _ _ ⟨i+1,_,_,rfl,rfl,hB'88,o130,o124'1,by omega⟩ (by omega))
   have hrt:=hc128
   have hB'89:=bln hB_125 hb127
   refine xlv 5 ((k8_hF87.below hB'89).rpp 1 2) ?_
   refine xl 1 ((k72'1.below hB'89).cell (i:=2) rfl) ?_
   have hkl:(Xs l t.no).length=(Zn (inB l t.no)):=Yr _ _
   have hci:=En (Hw hle).2.1 (i:=i) (by rw[hkl];omega)
   have hk_hF87:=Zf (u76.own2 hkq75 k49'10 (by decide))
   refine xr 1 (args:=#[.agg #[.int .i64 t.lo,.int .i64 t.hi],.slice kp (Zn (inB l t.no)) kc,.int .i64 (↑i:Int)]) ((Wl t.lo t.hi (↑i:Int) _ (Xs l t.no) _ ⟨by omega,by omega⟩ (by rw[hkl];omega) (Ps (hk_hF87.below hB'89) hkl)).mono (fun _ _ h=>by rw[hci] at h;exact h)) fun W131 hb131=>?_
   refine xa 3 [.int .i64 0,.int .i64 0] 173 fun b132 W132 n132=>?_
   have hB'90:=bln hB'89 hb131
   have g132:=n132.ge hB'90
   refine xsv 0 n132.blk [.int .i64 ((Xb t.hi (Xs l t.no) i).1),.int .i64 ((Xb t.hi (Xs l t.no) i).2)] fun W133 u133 k133=>?_
   refine xlv 6 k133.rp ?_
   refine xbs 2 1 [.int .i64 (↑(Kc ((Vb l t.no).getD i [])):Int),.int .i64 ((Xb t.hi (Xs l t.no) i).1),.int .i64 ((Xb t.hi (Xs l t.no) i).2),.slice px124 ((t.way++[t.no]).length) cx124,.int .i64 0] 184 fun b134 W134 n134=>?_
   have hB'91:=u133.below (bln hB'90 n132.below) g132
   have g134:=n134.ge hB'91
   have hB_'11:=u133.own2 (Zb (Zb (Zb hB_ hb127) hb131) n132.below) n132.blk (by decide)
   have r134_hB_:=Zu hB_'11 n134
   have hB_'12:=Zb hB_'11 n134.below
   have hB'92:=bln hB'91 n134.below
   refine xbi 0 fun _ _ _ _ zJ zQ zo zx zy zK=>Zp (m:=1) (news:=[.int .i64 (↑(Kc ((Vb l t.no).getD i [])):Int),.int .i64 ((Xb t.hi (Xs l t.no) i).1),.int .i64 ((Xb t.hi (Xs l t.no) i).2),.slice px124 ((t.way++[t.no]).length) cx124,.int .i64 0]) (.agg #[.int .i64 0,.int .i64 0,.int .i64 0,.slice none 0 0,.int .i64 0]) 5 56 (i+1) (((Yt l t px124 cx124 (i+1)).flatMap wtC)) zo Tryz.underlying185 (by kernel_rfl) rfl (by decide) zx hB_'12 zy (n134.blk.sl 1 1 (by decide) (by decide)) rfl (by simp[Value.oneCell']) (by unfold maxLen;omega) (by omega) hB'92.size (by rfl) (by rw[Jl,List.flatMap_append,show Ke l t px124 cx124 i=⟨Kc ((Vb l t.no).getD i []),(Xb t.hi (Xs l t.no) i).1,(Xb t.hi (Xs l t.no) i).2,t.way++[t.no],0,px124,cx124⟩ from by unfold Ke;rw[if_pos hrt]];rfl) fun px135 cx135 W135 o135 hg135 hb135=>?_
   refine zK _ _ ?_
   refine xwm 6 ((↑i:Int)+1) (↑(i+1):Int) ?_
   have hB'93:=hB'92.trans hb135
   have o124'2:=Zg (Zb (u133.own2 (Zb (Zb (Zb o124 hb127) hb131) n132.below) n132.blk (by decide)) n134.below) hg135 hB_'12 (by decide)
   exact ze 2 (hJ125 _ _ _ ⟨i+1,_,_,rfl,rfl,hB'93,o135,o124'2,by omega⟩ (by omega))
  have hWs_hF87:=((((((((((hWs.below n7.below).updN u8 n7 rfl).only (Ze.of_upd (T:=[87]) u49 k5_b2'9 (by decide)) (by decide)).below hb50).below n70.below).below n71.below).only (Ze.of_upd (T:=[188]) u72 k70 (by decide)) (by decide)).only (Ze.of_upd (T:=[43]) u73 k71 (by decide)) (by decide)).below n74.below).only (Ze.of_grown (T:=[3]) hg75 hBl'19 (by decide)) (by decide)).only (Ze.of_upd (T:=[87]) u76 k49'10 (by decide)) (by decide)
  refine xbi 8 fun _ _ _ _ zJ zQ zo zx zy zK=>Zp (m:=(ts.length-1)) (news:=(r.flatMap wtC)) (.agg #[.int .i64 0,.int .i64 0,.int .i64 0,.slice none 0 0,.int .i64 0]) 5 56 ((Yt l t px124 cx124 (Zn (inB l t.no))++r).length) (((Yt l t px124 cx124 (Zn (inB l t.no))++r).flatMap wtC)) zo Tryz.underlying185 (by kernel_rfl) rfl (by decide) zx hB_ zy ((hWs_hF87.below hB_125).slN htr) (by rw[Gd Cc,htl];rfl) (wt_one r) (by unfold maxLen;omega) (by omega) hB_125.size (by rw[List.length_append,Jk,htl];omega) (by rw[List.flatMap_append,show i=(Zn (inB l t.no)) by omega]) fun px136 cx136 W136 o136 hg136 hb136=>?_
  refine zK _ _ ?_
  have o124'3:=Zg o124 hg136 hB_ (by decide)
  have hApW:=(Kr.of_lt hBlF o124'3 (Nat.le_refl _)).symm
  have hB'94:=hB_125.trans hb136
  have hT137:Below W76.heap.size W76 W136:=hB'94
  have hs137:w.heap.size≤W76.heap.size:=hF87.size
  have o136'1:=Zd o136 hs137
  have hKt'29:=hKt'26.below hT137
  have o124'4:=Zd o124'3 hs137
  have hB:=bln hF87 hT137
  have k5_b1'16:=(u76.blk (((u73.blkT (u72.blkT ((((u49.blk (u8.blkT (k5_b1.below n7.below) n7.blk (by decide)) (Ne.symm (Ne.symm d2_b1))).below hb50).below n70.below).below n71.below) k70 (by decide)) k71 (by decide)).below n74.below).grown hg75 hBl'19 (by decide)) (Ne.symm (Ne.symm d2_b1))).below hT137
  have k76'3:=k76.below hT137
  have hEn'16:=Zb (u76.own2 (Zg (Zb (u73.own2 (u72.own2 (Zb (Zb (Zb (u49.own2 (u8.own2 (Zb hEn n7.below) n7.blk (by decide)) k5_b2'9 (by decide)) hb50) n70.below) n71.below) k70 (by decide)) k71 (by decide)) n74.below) hg75 hBl'19 (by decide)) k49'10 (by decide)) hT137
  have o75'7:=Zb o75'4 hT137
  have hFl'32:=Zb (u76.own2 (Zg (Zb (u73.own3 (u72.own2 (Zb hFl'26 n71.below) k70 (by decide)) r71_hFl) n74.below) hg75 hBl'19 (by decide)) k49'10 (by decide)) hT137
  have hI'16:=((((((((hI'6.below hb50).below n70.below).below n71.below).only (Ze.of_upd (T:=[188]) u72 k70 (by decide)) (by decide)).only (Ze.of_upd (T:=[43]) u73 k71 (by decide)) (by decide)).below n74.below).only (Ze.of_grown (T:=[3]) hg75 hBl'19 (by decide)) (by decide)).only (Ze.of_upd (T:=[87]) u76 k49'10 (by decide)) (by decide)).below hT137
  refine ze 3 (hJ5 _ _ _ ⟨{ s with looked:=s.looked+1,bs:=s.bs++[t.no] },(Yt l t px124 cx124 (Zn (inB l t.no))++r),pe,px75,pf,ce,cx75,cf,fv,px136,cx136,rfl,rfl,hB,k5_b1'16,k76'3,hEn'16,o75'7,hFl'32,(Cr.of o136'1 rfl),(Yc.below_visits hKt'29 o124'4 hApW),hI'16,hwo1.inner px124 cx124 hft hfs hle hlf,hfv⟩ ?_)
  show 20*(fuel.toNat-(s.looked+1))+(Yt l t px124 cx124 (Zn (inB l t.no))++r).length<20*(fuel.toNat-s.looked)+ts.length
  rw[List.length_append,Jk,htl]
  omega
 have hcE:=hc6
 refine xlv 7 k5_b2.rp ?_
 refine xsv 0 k5_b1 [.slice pe s.es.length ce,.slice pb s.bs.length cb,.int .i64 s.deep,.int .i64 (↑s.looked:Int),.slice pf fv.length cf] fun W138 u138 k138=>?_
 have g1:=n1.ge (Below.refl w.heap.size _)
 have hB'95:=u138.below hB_5 g1
 have hEn'17:=u138.own2 hEn k5_b1 (by decide)
 have hBl'20:=u138.own2 hBl k5_b1 (by decide)
 have hFl'33:=u138.own2 hFl k5_b1 (by decide)
 have hKi'1:=hKi.only (Ze.of_upd (T:=[87]) u138 k5_b1 (by decide)) (by decide)
 refine xec 3 k138 (.agg #[.slice pe s.es.length ce,.slice pb s.bs.length cb,.int .i64 s.deep,.int .i64 (↑s.looked:Int),.slice pf fv.length cf]) ?_
 obtain rfl:ts=[]:=by cases ts with
  | nil=>rfl
  | cons t r=>simp at hcE
 rw[hwo.nil]
 exact⟨pe,pb,pf,ce,cb,cf,fv,rfl,hB'95,hEn'17,hBl'20,hFl'33,hfv,hKi'1⟩
theorem ImgR.mono{B B' b:Nat}{p:Option Addr}{n c:Nat}{l:List UInt8}{w:World}(h:ImgR B b p n c l w)(hB:B'≤B):ImgR B' b p n c l w:=⟨h.blk,Zd h.row hB,h.hn⟩
theorem image_OfR(a:Option Addr)(c n m:Nat)(l:List UInt8)(w:World)(hn:l.length=n)(hm:min (n/256) 14400*256=m)(h:Bys w (.slice a n c) l)(hl:n≤100000000)(hc:n≤c) :
 Calls Tryz.prog 7 #[.slice a n c] w (Vn (fun w' r=>∃ b p c2,r=.pointer (some ⟨b,0,none⟩)∧w.heap.size≤b∧ImgR w.heap.size b p m c2 (l.take m) w') w):=by
 subst hn hm
 refine(Zgd a c l w h hl hc).mono ?_
 rintro e W ⟨_,rfl,hb,b,p,c2,rfl,h1,h2,h3⟩
 exact⟨_,rfl,hb,b,p,c2,rfl,h1,h2,h3,by omega⟩
theorem Il(l:List UInt8)(tree fuel:Int):∀ (d:Nat) (way:List Int) (no lo hi:Int) (s:WS),way.length+d≤20→(∀ f∈s.fs,f.1.length≤40)→∀ f∈(Zz l tree fuel d way no lo hi s).fs,f.1.length≤40
 | 0,_,_,_,_,s,_,h=>h
 | d+1,way,no,lo,hi,s,hw,h=>by
  have hnote:∀ (c:Int) (s:WS),(∀ f∈s.fs,f.1.length≤40)→∀ f∈(Yh way [no] c s).fs,f.1.length≤40:=by
   intro c s h f hf
   simp only[Yh,List.mem_append,List.mem_singleton] at hf
   rcases hf with hf|rfl
   ·exact h f hf
   ·simp;omega
  unfold Zz
  split
  ·exact hnote _ _ h
  ·split
   ·exact hnote _ _ h
   ·split
    ·exact h
    ·refine Mu (V:=Zz l tree fuel d) (l:=l) (way:=way) (no:=no) (hi:=hi) (s:={ s with looked:=s.looked+1,bs:=s.bs++[no] }) (fun _ t=>∀ f∈t.fs,f.1.length≤40) h (Zn (inB l no)) ?_ fun _ _ _ _ q=>q
     intro i t _ _ q
     unfold Jj
     split
     ·exact Il l tree fuel d (way++[no]) _ _ _ t (by simp;omega) q
     ·exact hnote _ _ q
theorem scanW_len(l:List UInt8)(root tree fuel:Int):∀ f∈(Zj l root tree fuel).fs,f.1.length≤40:=Il l tree fuel 17 [] root _ _ ws0 (by decide) (by simp[ws0])
theorem Om{α:Type}{l:List α}{d:α}{i:Nat}(h:i<l.length):l.getD i d∈l:=by simp[List.getD,h]
theorem Ho.at{w:World}:∀ {fs:List (List Int×Int)} {vs:List Value},Ho w fs vs→∀ {j:Nat},j<fs.length→∃ ty x,vs[j]? = some (.iface ty x)∧Ja w ((fs.getD j ([],0)).1.map some) (some (fs.getD j ([],0)).2) (.iface ty x)
 | f::r,v::q,h,0,_=>by
  obtain⟨ty,x,rfl⟩:=h.1.iface
  exact⟨ty,x,rfl,h.1⟩
 | f::r,v::q,h,j+1,hj=>by
  obtain⟨ty,x,h1,h2⟩:=h.2.at (j:=j) (by simpa using hj)
  exact⟨ty,x,by simpa using h1,by simpa using h2⟩
 | [],_,_,j,hj=>absurd hj (by simp)
 | _::_,[],h,_,_=>h.elim
theorem Sl.elem1{w:World}{b:Option Addr}{n c:Nat}{xs:List Value}(h:Sl w (.slice b n c) n xs){j:Nat}{x:Value}(hj:xs[j]? = some x):b.isSome=true∧w.cell? (Xh b (j*1))=some x:=by rw[Nat.mul_one];exact Sl.elem h hj
theorem Zav(l:List Int):Vu (l.map some)=l:=by unfold Vu;simp[List.filterMap_map]
theorem scan_law(l:List UInt8)(root tree fuel:Int):(Zj l root tree fuel).looked≤fuel.toNat∧(Zj l root tree fuel).bs.length≤(Zj l root tree fuel).looked∧(∀ x∈(Zj l root tree fuel).es,InBlk l tree x) ∧
 (Zj l root tree fuel).es.Pairwise (fun x y=>x.1<y.1)∧∀ f∈(Zj l root tree fuel).fs,f.1≠[]∧f.1.getD 0 0=root:=by
 obtain⟨es,fs,h⟩:=Un l root tree fuel
 have h1:(Zj l root tree fuel).es=es:=by rw[h.esE];rfl
 have h2:(Zj l root tree fuel).fs=fs:=by rw[h.fsE];rfl
 have h3:=h.blks
 refine⟨Dk _ _ _ _,by simpa [ws0] using h3,fun x hx=>h.inb x (h1▸hx),by rw[h1];exact h.rise.1,fun f hf=>?_⟩
 obtain⟨q1,q2,_⟩:=h.flt f (h2▸hf)
 refine⟨q2,?_⟩
 cases e:f.1 with
 | nil=>exact absurd e q2
 | cons a r=>rw[e] at q1;simpa using q1
theorem Zez(l:List Int)(c:Int):Dl (l.map some) (some c)=c:=by simp[Dl,Nw]
def ft0:Ft:=⟨[],0,none,0⟩
structure WalkS(t:WS)(pe pb pf:Option Addr)(ce cb cf:Nat)(fv:List Value)(w:World):Prop where
 ents:Sts Ko w (.slice pe t.es.length ce) t.es
 blks:Ints w (.slice pb t.bs.length cb) t.bs
 flts:Sl w (.slice pf t.fs.length cf) t.fs.length fv
 fltv:Ho w t.fs fv
theorem WalkS.below{t:WS}{pe pb pf:Option Addr}{ce cb cf:Nat}{fv:List Value}{w W:World}(h:WalkS t pe pb pf ce cb cf fv w)(hb:Below w.heap.size w W):WalkS t pe pb pf ce cb cf fv W :=
 ⟨Sl.below h.ents hb,Sl.below h.blks hb,Sl.below h.flts hb,h.fltv.below hb⟩
structure RWalkS(t:WS)(pe pb pf:Option Addr)(ce cb cf:Nat)(fv:List Ft)(w:World):Prop where
 ents:Sts Ko w (.slice pe t.es.length ce) t.es
 blks:Ints w (.slice pb t.bs.length cb) t.bs
 flts:Sts Za4 w (.slice pf fv.length cf) fv
 map:fv.map fltP=t.fs
 kept:∀ f∈fv,Ints w (.slice f.fa f.bl.length f.fc) f.bl
theorem RWalkS.below{t:WS}{pe pb pf:Option Addr}{ce cb cf:Nat}{fv:List Ft}{w W:World}(h:RWalkS t pe pb pf ce cb cf fv w)(hb:Below w.heap.size w W):RWalkS t pe pb pf ce cb cf fv W :=
 ⟨Sl.below h.ents hb,Sl.below h.blks hb,Sl.below h.flts hb,h.map,fun f hf=>Sl.below (h.kept f hf) hb⟩
theorem RWalkS.at_{t:WS}{pe pb pf:Option Addr}{ce cb cf:Nat}{fv:List Ft}{w:World}(h:RWalkS t pe pb pf ce cb cf fv w){i:Nat}(hi:i<fv.length):t.fs.getD i ([],0)=((fv.getD i ft0).bl,(fv.getD i ft0).c):=by
 rw[←h.map];simp[List.getD,hi,fltP]
theorem RWalkS.len{t:WS}{pe pb pf:Option Addr}{ce cb cf:Nat}{fv:List Ft}{w:World}(h:RWalkS t pe pb pf ce cb cf fv w):fv.length=t.fs.length:=by rw[←h.map];simp
def eL (S:WS):List (Option Int):=if S.fs=[] then [] else(S.fs.getD 0 ([],0)).1.map some
def eT (S:WS):Option Int:=if S.fs=[] then none else some (S.fs.getD 0 ([],0)).2
def Oa(S:WS):WS:=if S.fs=[] then S else ws0
def Ym(S:WS):List Int×Int:=if S.fs=[] then([],0) else S.fs.getD 0 ([],0)
def FirstP(fs:List (List Int×Int))(w:World)(e:Ending)(w':World):Prop :=
 (fs=[]∧e=.returned .nilIface∧Below w.heap.size w w')∨(fs≠[]∧∃ ty x,e=.returned (.iface ty x)∧Below w.heap.size w w'∧Ja w' ((fs.getD 0 ([],0)).1.map some) (some (fs.getD 0 ([],0)).2) (.iface ty x))
theorem Eb(p:Option Addr)(n c:Nat)(fv:List Value)(ty:TypeId)(x:Value)(w:World)(hn:0<n)(hS:Sl w (.slice p n c) n fv)(hx:fv[0]? = some (.iface ty x)) :
 Calls Tryz.prog 57 #[.slice p n c] w (Ret (.iface ty x) w):=by
 refine zin 15 Tryz.func57 ?_
 refine xu 14 1 ?_
 refine xk 6 (show(decide ((0:Int)<(↑n:Int)):Bool)=true from decide_eq_true (by omega)) ?_
 refine xx 6 _ n 0 1 (Sl.elem1 hS hx).1 ?_
 refine xl 0 ((Sl.elem1 hS hx).2) ?_
 exact xe 22 (.iface ty (x)) ⟨rfl,(Below.refl w.heap.size _)⟩
theorem Dy(p:Option Addr)(c:Nat)(w:World) :
 Calls Tryz.prog 57 #[.slice p 0 c] w (Ret .nilIface w):=by
 refine zin 15 Tryz.func57 ?_
 refine xu 14 1 ?_
 exact xe 18 .nilIface ⟨rfl,(Below.refl w.heap.size _)⟩
theorem Zcg(p:Option Addr)(n c:Nat)(fs:List (List Int×Int))(fv:List Value)(w:World)(hn:fs.length=n)(hS:Sl w (.slice p n c) n fv)(hF:Ho w fs fv):Calls Tryz.prog 57 #[.slice p n c] w (FirstP fs w):=by
 subst hn
 match fs,hS,hF with
 | [],hS,hF =>
  refine(Dy p c w).mono ?_
  rintro e W ⟨rfl,hb⟩
  exact .inl ⟨rfl,rfl,hb⟩
 | f::r,hS,hF =>
  obtain⟨ty,x,h1,h2⟩:=hF.at (j:=0) (by simp)
  refine(Eb p _ c fv ty x w (by simp) hS h1).mono ?_
  rintro e W ⟨rfl,hb⟩
  exact .inr ⟨by simp,ty,x,rfl,hb,h2.below hb⟩
theorem WalkV.mono{B B':Nat}{t:WS}{pe pb pf:Option Addr}{ce cb cf:Nat}{fv:List Value}{w:World}(h:WalkV B t pe pb pf ce cb cf fv w)(hB:B'≤B):WalkV B' t pe pb pf ce cb cf fv w:=⟨Zd h.ents hB,Zd h.blks hB,Zd h.flts hB,h.fltv⟩
theorem WalkV.below{B:Nat}{t:WS}{pe pb pf:Option Addr}{ce cb cf:Nat}{fv:List Value}{w W:World}(h:WalkV B t pe pb pf ce cb cf fv w)(hb:Below w.heap.size w W):WalkV B t pe pb pf ce cb cf fv W:=⟨Zb h.ents hb,Zb h.blks hb,Zb h.flts hb,h.fltv.below hb⟩
theorem WalkV.only{B:Nat}{T:List TypeId}{t:WS}{pe pb pf:Option Addr}{ce cb cf:Nat}{fv:List Value}{w W:World}(h:WalkV B t pe pb pf ce cb cf fv w)(hO:Ze T w W)(hT:T.contains 77=false∧T.contains 3=false∧T.contains 39=false∧T.contains 125=false):WalkV B t pe pb pf ce cb cf fv W:=⟨Zl h.ents hO hT.1,Zl h.blks hO hT.2.1,Zl h.flts hO hT.2.2.1,h.fltv.only hO hT.2.2.2⟩
structure RWalkV(B:Nat)(t:WS)(pe pb pf:Option Addr)(ce cb cf:Nat)(fv:List Ft)(w:World):Prop where
 ents:w.ownsRow B 77 3 (.slice pe t.es.length ce) t.es.length (t.es.flatMap Ko)
 blks:w.ownsRow B 3 1 (.slice pb t.bs.length cb) t.bs.length (t.bs.map (Value.int .i64))
 flts:w.ownsRow B 43 2 (.slice pf fv.length cf) fv.length (fv.flatMap Za4)
 map:fv.map fltP=t.fs
 kept:∀ f∈fv,Vf B w f.fa f.fc f.bl
theorem RWalkV.s{B:Nat}{t:WS}{pe pb pf:Option Addr}{ce cb cf:Nat}{fv:List Ft}{w:World}(h:RWalkV B t pe pb pf ce cb cf fv w):RWalkS t pe pb pf ce cb cf fv w:=⟨Zf h.ents,Zf h.blks,Zf h.flts,h.map,fun f hf=>(h.kept f hf).ints⟩
theorem RWalkV.mono{B B':Nat}{t:WS}{pe pb pf:Option Addr}{ce cb cf:Nat}{fv:List Ft}{w:World}(h:RWalkV B t pe pb pf ce cb cf fv w)(hB:B'≤B):RWalkV B' t pe pb pf ce cb cf fv w:=⟨Zd h.ents hB,Zd h.blks hB,Zd h.flts hB,h.map,fun f hf=>(h.kept f hf).mono hB⟩
theorem RWalkV.below{B:Nat}{t:WS}{pe pb pf:Option Addr}{ce cb cf:Nat}{fv:List Ft}{w W:World}(h:RWalkV B t pe pb pf ce cb cf fv w)(hb:Below w.heap.size w W):RWalkV B t pe pb pf ce cb cf fv W:=⟨Zb h.ents hb,Zb h.blks hb,Zb h.flts hb,h.map,fun f hf=>(h.kept f hf).below hb⟩
theorem RWalkV.only{B:Nat}{T:List TypeId}{t:WS}{pe pb pf:Option Addr}{ce cb cf:Nat}{fv:List Ft}{w W:World}(h:RWalkV B t pe pb pf ce cb cf fv w)(hO:Ze T w W)(hT:T.contains 77=false∧T.contains 3=false∧T.contains 43=false):RWalkV B t pe pb pf ce cb cf fv W:=⟨Zl h.ents hO hT.1,Zl h.blks hO hT.2.1,Zl h.flts hO hT.2.2,h.map,fun f hf=>(h.kept f hf).only hO hT.2.1⟩
theorem RWalkV.updF{B b:Nat}{cs:List Value}{t:WS}{pe pb pf:Option Addr}{ce cb cf:Nat}{fv:List Ft}{w W:World}(h:RWalkV B t pe pb pf ce cb cf fv w)(u:Upd w b W)(k:Blk w b cs 43)(hs:∀ j,(Value.slice pf fv.length cf).ownBlock=some j→j≠b):RWalkV B t pe pb pf ce cb cf fv W :=
 ⟨u.own2 h.ents k (by decide),u.own2 h.blks k (by decide),u.own3 h.flts hs,h.map,fun f hf=>u.own2 (h.kept f hf) k (by decide)⟩
theorem WalkV.s{B:Nat}{t:WS}{pe pb pf:Option Addr}{ce cb cf:Nat}{fv:List Value}{w:World}(h:WalkV B t pe pb pf ce cb cf fv w):WalkS t pe pb pf ce cb cf fv w:=⟨Zf h.ents,Zf h.blks,Zf h.flts,h.fltv⟩
theorem WalkV.zero(B:Nat)(w:World):WalkV B ws0 none none none 0 0 0 [] w:=⟨World.ownsRow_nil _ _ _ _,World.ownsRow_nil _ _ _ _,World.ownsRow_nil _ _ _ _,trivial⟩
theorem RWalkV.zero(B:Nat)(w:World):RWalkV B ws0 none none none 0 0 0 [] w:=⟨World.ownsRow_nil _ _ _ _,World.ownsRow_nil _ _ _ _,World.ownsRow_nil _ _ _ _,rfl,fun _ h=>by cases h⟩
theorem Ub{S:WS}(h:S.fs=[]):Oa S=S∧Ym S=([],0)∧eL S=[]∧eT S=none:=by unfold Oa Ym eL eT;simp[h]
theorem Qy{S:WS}(h:S.fs≠[]):Oa S=ws0∧Ym S=S.fs.getD 0 ([],0)∧eL S=(S.fs.getD 0 ([],0)).1.map some∧eT S=some (S.fs.getD 0 ([],0)).2:=by unfold Oa Ym eL eT;simp[h]
def WholeP(S:WS)(w:World)(e:Ending)(w':World):Prop:=∃ t pe pb pf ce cb cf fv v,t=Oa S∧e=.returned (.tuple #[.agg (walkC t pe pb pf ce cb cf).toArray,v])∧Below w.heap.size w w'∧WalkV w.heap.size t pe pb pf ce cb cf fv w'∧Ja w' (eL S) (eT S) v
def rwalkC(t:WS)(pe pb pf:Option Addr)(n ce cb cf:Nat):List Value:=[.slice pe t.es.length ce,.slice pb t.bs.length cb,.int .i64 t.deep,.int .i64 (t.looked:Int),.slice pf n cf]
def RWholeP(S:WS)(w:World)(e:Ending)(w':World):Prop:=∃ t pe pb pf ce cb cf fv a c,t=Oa S∧e=.returned (.tuple #[.agg (rwalkC t pe pb pf fv.length ce cb cf).toArray,.agg #[.slice a (Ym S).1.length c,.int .i64 (Ym S).2]])∧Below w.heap.size w w'∧RWalkV w.heap.size t pe pb pf ce cb cf fv w'∧Vf w.heap.size w' a c (Ym S).1
theorem Zfb(Bi b:Nat)(pi:Option Addr)(ni ci:Nat)(l:List UInt8)(root tree fuel:Int)(w:World)(hfu:fuel≤1000)(hI:ImgR Bi b pi ni ci l w) :
 Calls Tryz.prog 29 #[.pointer (some ⟨b,0,none⟩),.int .i64 root,.int .i64 tree,.int .i64 fuel] w (WholeP (Zj l root tree fuel) w):=by
 refine zin 25 Tryz.func29 ?_
 refine xa 2 [.slice none 0 0,.slice none 0 0,.int .i64 0,.int .i64 0,.slice none 0 0] 70 fun b1 W1 n1=>?_
 have hsz:=n1.below.size
 refine xc 9 (args:=#[.pointer (some ⟨b,0,none⟩),.int .i64 root,.int .i64 tree,.int .i64 fuel]) (walk_Scan Bi b pi ni ci l root tree fuel _ hfu (hI.below n1.below)) ?_
 rintro _ W2 ⟨pe,pb,pf,ce,cb,cf,fv,rfl,hb2,hW0⟩
 have hW:=hW0.mono hsz
 refine xa 0 [.slice none 0 0,.slice none 0 0,.int .i64 0,.int .i64 0,.slice none 0 0] 70 fun b3 W3 n3=>?_
 have k1:=n1.blk.below hb2
 have d3_b1:=n3.ne k1
 have hB'1:=bln n1.below hb2
 have g3:=n3.ge hB'1
 refine xsv 0 n3.blk [.slice pe ((Zj l root tree fuel).es.length) ce,.slice pb ((Zj l root tree fuel).bs.length) cb,.int .i64 ((Zj l root tree fuel).deep),.int .i64 (↑(Zj l root tree fuel).looked:Int),.slice pf ((Zj l root tree fuel).fs.length) cf] fun W4 u4 k4=>?_
 refine xb 6 4 k4 ?_
 have hW'1:=(hW.below n3.below).only (Ze.of_upd (T:=[70]) u4 n3.blk (by decide)) (by decide)
 refine xc 0 (args:=#[.slice pf ((Zj l root tree fuel).fs.length) cf]) (Zcg pf _ cf (Zj l root tree fuel).fs fv _ rfl (Zf hW'1.flts) hW'1.fltv) ?_
 rintro e W5 hq5
 rcases hq5 with ⟨hz,rfl,hb5⟩|⟨hz,ty,x,rfl,hb5,hv⟩
 ·have hwo:=Ub hz
  have k4'1:=k4.below hb5
  refine xlv 14 k4'1.rp ?_
  have k1'1:=(u4.blk (k1.below n3.below) (Ne.symm (Ne.symm d3_b1))).below hb5
  refine xsv 0 k1'1 [.slice pe ((Zj l root tree fuel).es.length) ce,.slice pb ((Zj l root tree fuel).bs.length) cb,.int .i64 ((Zj l root tree fuel).deep),.int .i64 (↑(Zj l root tree fuel).looked:Int),.slice pf ((Zj l root tree fuel).fs.length) cf] fun W6 u6 k6=>?_
  have g1:=n1.ge (Below.refl w.heap.size _)
  have hB'2:=u6.below (bln (u4.below (bln hB'1 n3.below) g3) hb5) g1
  have hW'2:=(hW'1.below hb5).only (Ze.of_upd (T:=[70]) u6 k1'1 (by decide)) (by decide)
  exact xec 4 k6 (.tuple #[.agg #[.slice pe ((Zj l root tree fuel).es.length) ce,.slice pb ((Zj l root tree fuel).bs.length) cb,.int .i64 ((Zj l root tree fuel).deep),.int .i64 (↑(Zj l root tree fuel).looked:Int),.slice pf ((Zj l root tree fuel).fs.length) cf],.nilIface]) ⟨_,pe,pb,pf,ce,cb,cf,fv,_,rfl,by rw[hwo.1];rfl,hB'2,by rw[hwo.1];exact hW'2,by rw[hwo.2.2.1,hwo.2.2.2];rfl⟩
 have hwo:=Qy hz
 have k1'2:=(u4.blk (k1.below n3.below) (Ne.symm (Ne.symm d3_b1))).below hb5
 refine xsv 14 k1'2 [.slice none 0 0,.slice none 0 0,.int .i64 0,.int .i64 0,.slice none 0 0] fun W7 u7 k7=>?_
 have g1:=n1.ge (Below.refl w.heap.size _)
 have hB'3:=u7.below (bln (u4.below (bln hB'1 n3.below) g3) hb5) g1
 have hv'1:=hv.upd u7 k1'2 (by decide)
 exact xec 5 k7 (.tuple #[.agg #[.slice none 0 0,.slice none 0 0,.int .i64 0,.int .i64 0,.slice none 0 0],.iface ty (x)]) ⟨_,none,none,none,0,0,0,[],_,rfl,by rw[hwo.1];rfl,hB'3,by rw[hwo.1];exact WalkV.zero _ _,by rw[hwo.2.2.1,hwo.2.2.2];exact hv'1⟩
theorem Zg1.s{S:WS}{w:World}{e:Ending}{w':World}(h:Zg1 S w e w'):∃ (pe pb pf:Option Addr) (ce cb cf:Nat) (fv:List Ft),e=.returned (.agg (rwalkC S pe pb pf fv.length ce cb cf).toArray)∧Below w.heap.size w w'∧RWalkV w.heap.size S pe pb pf ce cb cf fv w':=by
 obtain⟨pe,pb,pf,ce,cb,cf,fv,rfl,hb,h1,h2,h3,h4,h5⟩:=h
 exact⟨pe,pb,pf,ce,cb,cf,fv,rfl,hb,h1,h2,h3,h4,fun f hf=>(h5 (fltK f) (List.mem_map_of_mem hf)).1⟩
theorem RWalkS.first{t:WS}{pe pb pf:Option Addr}{ce cb cf:Nat}{fv:List Ft}{w:World}(h:RWalkS t pe pb pf ce cb cf fv w)(hi:0<fv.length):Ym t=((fv.getD 0 ft0).bl,(fv.getD 0 ft0).c)∧t.fs≠[]:=by
 have h1:=h.at_ hi
 have hz:t.fs≠[]:=by intro q;have:=h.len;rw[q,List.length_nil] at this;omega
 exact⟨by rw[(Qy hz).2.1,h1],hz⟩
theorem RWalkS.none{t:WS}{pe pb pf:Option Addr}{ce cb cf:Nat}{fv:List Ft}{w:World}(h:RWalkS t pe pb pf ce cb cf fv w)(hi:¬ 0<fv.length):t.fs=[]:=by
 have:=h.len;exact List.length_eq_zero_iff.1 (by omega)
theorem Zcm(B bm:Nat)(p:Option Addr)(k c:Nat)(l:List UInt8)(root tree fuel:Int)(w:World)(hfu:fuel≤1000)(hI:RefI B bm p k c l w) :
 Calls Tryz.prog 34 #[.pointer (some ⟨bm,0,none⟩),.int .i64 root,.int .i64 tree,.int .i64 fuel] w (RWholeP (Zj l root tree fuel) w):=by
 refine zin 27 Tryz.func34 ?_
 refine xa 2 [.slice none 0 0,.slice none 0 0,.int .i64 0,.int .i64 0,.slice none 0 0] 87 fun b1 W1 n1=>?_
 refine xa 0 [.slice none 0 0,.int .i64 0] 43 fun b2 W2 n2=>?_
 have hB:=bln n1.below n2.below
 have hsz:=hB.size
 have hltF:=n2.blk.lt
 refine xc 8 (args:=#[.pointer (some ⟨bm,0,none⟩),.int .i64 root,.int .i64 tree,.int .i64 fuel]) ((ref14_Scan B bm p k c l root tree fuel _ (hI.below hB) hfu).mono (fun _ _ h=>Zg1.s h)) ?_
 rintro _ W3 ⟨pe,pb,pf,ce,cb,cf,fv,rfl,hb3,hQ0⟩
 have hsF:∀ j,(Value.slice pf fv.length cf).ownBlock=some j→j≠b2:=fun j hj=>by have q:=(hQ0.flts.lt j hj).1;omega
 have hQ:=hQ0.mono hsz
 refine xa 0 [.slice none 0 0,.slice none 0 0,.int .i64 0,.int .i64 0,.slice none 0 0] 87 fun b4 W4 n4=>?_
 have k1:=(n1.blk.below n2.below).below hb3
 have d4_b1:=n4.ne k1
 have hB'1:=bln hB hb3
 have g4:=n4.ge hB'1
 refine xsv 0 n4.blk [.slice pe ((Zj l root tree fuel).es.length) ce,.slice pb ((Zj l root tree fuel).bs.length) cb,.int .i64 ((Zj l root tree fuel).deep),.int .i64 (↑(Zj l root tree fuel).looked:Int),.slice pf fv.length cf] fun W5 u5 k5=>?_
 refine xb 6 4 k5 ?_
 refine xid 4 ((↑fv.length:Int)>(0:Int)) (fun hc6=>?_) (fun hc6=>?_)
 ·refine xd 1 (.t w.heap.size [87,43]) ?_
  refine xm2 (.b [0,1]) 2 5 ?_ ?_
  ·have k5'1:=k5.below (Za W5)
   refine xb 0 4 k5'1 ?_
   have hQ'1:=((hQ.below n4.below).only (Ze.of_upd (T:=[87]) u5 n4.blk (by decide)) (by decide)).below (Za W5)
   refine xx (.e [] 3) _ fv.length 0 2 (Sts.cell (Zf hQ'1.flts) Li ft0 (k:=0) (i:=0) (by omega) rfl).1 ?_
   refine xm2 0 4 5 ?_ ?_
   ·refine xlv 0 (Sts.rp (k:=0) (Zf hQ'1.flts) Li ft0 (by omega) (by decide)) ?_
    have k1'1:=(u5.blk (k1.below n4.below) (Ne.symm (Ne.symm d4_b1))).below (Za W5)
    have g1:=n1.ge (Below.refl w.heap.size _)
    refine ysv (.o [] 5) k1'1 [.slice none 0 0,.slice none 0 0,.int .i64 0,.int .i64 0,.slice none 0 0] (.t w.heap.size [87,43]) fun W7 u7 k7=>⟨(Zi u7 k1'1 g1 (by decide)),?_⟩
    have k2'1:=u7.blkT ((u5.blkT ((n2.blk.below hb3).below n4.below) n4.blk (by decide)).below (Za W5)) k1'1 (by decide)
    have g2:=n2.ge n1.below
    refine ysv (.o [] 6) k2'1 [.slice ((fv.getD 0 ft0).fa) ((fv.getD 0 ft0).bl.length) ((fv.getD 0 ft0).fc),.int .i64 ((fv.getD 0 ft0).c)] (.t w.heap.size [87,43]) fun W8 u8 k8=>⟨(Zi u8 k2'1 g2 (by decide)),?_⟩
    have hQ'2:=(hQ'1.only (Ze.of_upd (T:=[87]) u7 k1'1 (by decide)) (by decide)).updF u8 k2'1 hsF
    have hB'2:=u8.below (u7.below (bln (u5.below (bln hB'1 n4.below) g4) (Za W5)) g1) g2
    have k7'1:=u8.blkT k7 k2'1 (by decide)
    refine Tn 4 [(b1,[.slice none 0 0,.slice none 0 0,.int .i64 0,.int .i64 0,.slice none 0 0]),(b2,[.slice ((fv.getD 0 ft0).fa) ((fv.getD 0 ft0).bl.length) ((fv.getD 0 ft0).fc),.int .i64 ((fv.getD 0 ft0).c)])] ⟨⟨_,k7'1⟩,⟨_,k8⟩,trivial⟩ (.tuple #[.agg #[.slice none 0 0,.slice none 0 0,.int .i64 0,.int .i64 0,.slice none 0 0],.agg #[.slice ((fv.getD 0 ft0).fa) ((fv.getD 0 ft0).bl.length) ((fv.getD 0 ft0).fc),.int .i64 ((fv.getD 0 ft0).c)]]) ?_
    obtain⟨hf1,hz⟩:=hQ'2.s.first (by omega)
    refine⟨_,none,none,none,0,0,0,[],_,_,rfl,by rw[(Qy hz).1,hf1];rfl,hB'2,by rw[(Qy hz).1];exact RWalkV.zero _ _,?_⟩
    rw[hf1]
    exact hQ'2.kept (fv.getD 0 ft0) (Om (by omega))
   have k1'2:=(u5.blk (k1.below n4.below) (Ne.symm (Ne.symm d4_b1))).below (Za W5)
   have g1:=n1.ge (Below.refl w.heap.size _)
   refine ysv 0 k1'2 [.slice none 0 0,.slice none 0 0,.int .i64 0,.int .i64 0,.slice none 0 0] (.t w.heap.size [87,43]) fun W9 u9 k9=>⟨(Zi u9 k1'2 g1 (by decide)),?_⟩
   have hQ'3:=hQ'1.only (Ze.of_upd (T:=[87]) u9 k1'2 (by decide)) (by decide)
   refine xlv (.o [] 4) (Sts.rp (k:=0) (Zf hQ'3.flts) Li ft0 (by omega) (by decide)) ?_
   have k2'2:=u9.blkT ((u5.blkT ((n2.blk.below hb3).below n4.below) n4.blk (by decide)).below (Za W5)) k1'2 (by decide)
   have g2:=n2.ge n1.below
   refine ysv (.o [] 6) k2'2 [.slice ((fv.getD 0 ft0).fa) ((fv.getD 0 ft0).bl.length) ((fv.getD 0 ft0).fc),.int .i64 ((fv.getD 0 ft0).c)] (.t w.heap.size [87,43]) fun W10 u10 k10=>⟨(Zi u10 k2'2 g2 (by decide)),?_⟩
   have hQ'4:=hQ'3.updF u10 k2'2 hsF
   have hB'3:=u10.below (u9.below (bln (u5.below (bln hB'1 n4.below) g4) (Za W5)) g1) g2
   have k9'1:=u10.blkT k9 k2'2 (by decide)
   refine Tn 4 [(b1,[.slice none 0 0,.slice none 0 0,.int .i64 0,.int .i64 0,.slice none 0 0]),(b2,[.slice ((fv.getD 0 ft0).fa) ((fv.getD 0 ft0).bl.length) ((fv.getD 0 ft0).fc),.int .i64 ((fv.getD 0 ft0).c)])] ⟨⟨_,k9'1⟩,⟨_,k10⟩,trivial⟩ (.tuple #[.agg #[.slice none 0 0,.slice none 0 0,.int .i64 0,.int .i64 0,.slice none 0 0],.agg #[.slice ((fv.getD 0 ft0).fa) ((fv.getD 0 ft0).bl.length) ((fv.getD 0 ft0).fc),.int .i64 ((fv.getD 0 ft0).c)]]) ?_
   obtain⟨hf1,hz⟩:=hQ'4.s.first (by omega)
   refine⟨_,none,none,none,0,0,0,[],_,_,rfl,by rw[(Qy hz).1,hf1];rfl,hB'3,by rw[(Qy hz).1];exact RWalkV.zero _ _,?_⟩
   rw[hf1]
   exact hQ'4.kept (fv.getD 0 ft0) (Om (by omega))
  have k1'3:=(u5.blk (k1.below n4.below) (Ne.symm (Ne.symm d4_b1))).below (Za W5)
  have g1:=n1.ge (Below.refl w.heap.size _)
  refine ysv 0 k1'3 [.slice none 0 0,.slice none 0 0,.int .i64 0,.int .i64 0,.slice none 0 0] (.t w.heap.size [87,43]) fun W11 u11 k11=>⟨(Zi u11 k1'3 g1 (by decide)),?_⟩
  have k5'2:=u11.blk (k5.below (Za W5)) (Ne.symm d4_b1)
  refine xb (.o [] 2) 4 k5'2 ?_
  have hQ'5:=(((hQ.below n4.below).only (Ze.of_upd (T:=[87]) u5 n4.blk (by decide)) (by decide)).below (Za W5)).only (Ze.of_upd (T:=[87]) u11 k1'3 (by decide)) (by decide)
  refine xx (.e [] 3) _ fv.length 0 2 (Sts.cell (Zf hQ'5.flts) Li ft0 (k:=0) (i:=0) (by omega) rfl).1 ?_
  refine xlv (.o [] 4) (Sts.rp (k:=0) (Zf hQ'5.flts) Li ft0 (by omega) (by decide)) ?_
  have k2'3:=u11.blkT ((u5.blkT ((n2.blk.below hb3).below n4.below) n4.blk (by decide)).below (Za W5)) k1'3 (by decide)
  have g2:=n2.ge n1.below
  refine ysv (.o [] 6) k2'3 [.slice ((fv.getD 0 ft0).fa) ((fv.getD 0 ft0).bl.length) ((fv.getD 0 ft0).fc),.int .i64 ((fv.getD 0 ft0).c)] (.t w.heap.size [87,43]) fun W12 u12 k12=>⟨(Zi u12 k2'3 g2 (by decide)),?_⟩
  have hQ'6:=hQ'5.updF u12 k2'3 hsF
  have hB'4:=u12.below (u11.below (bln (u5.below (bln hB'1 n4.below) g4) (Za W5)) g1) g2
  have k11'1:=u12.blkT k11 k2'3 (by decide)
  refine Tn 4 [(b1,[.slice none 0 0,.slice none 0 0,.int .i64 0,.int .i64 0,.slice none 0 0]),(b2,[.slice ((fv.getD 0 ft0).fa) ((fv.getD 0 ft0).bl.length) ((fv.getD 0 ft0).fc),.int .i64 ((fv.getD 0 ft0).c)])] ⟨⟨_,k11'1⟩,⟨_,k12⟩,trivial⟩ (.tuple #[.agg #[.slice none 0 0,.slice none 0 0,.int .i64 0,.int .i64 0,.slice none 0 0],.agg #[.slice ((fv.getD 0 ft0).fa) ((fv.getD 0 ft0).bl.length) ((fv.getD 0 ft0).fc),.int .i64 ((fv.getD 0 ft0).c)]]) ?_
  obtain⟨hf1,hz⟩:=hQ'6.s.first (by omega)
  refine⟨_,none,none,none,0,0,0,[],_,_,rfl,by rw[(Qy hz).1,hf1];rfl,hB'4,by rw[(Qy hz).1];exact RWalkV.zero _ _,?_⟩
  rw[hf1]
  exact hQ'6.kept (fv.getD 0 ft0) (Om (by omega))
 refine xlv 4 k5.rp ?_
 have k1'4:=u5.blk (k1.below n4.below) (Ne.symm (Ne.symm d4_b1))
 refine xsv 1 k1'4 [.slice pe ((Zj l root tree fuel).es.length) ce,.slice pb ((Zj l root tree fuel).bs.length) cb,.int .i64 ((Zj l root tree fuel).deep),.int .i64 (↑(Zj l root tree fuel).looked:Int),.slice pf fv.length cf] fun W13 u13 k13=>?_
 have g1:=n1.ge (Below.refl w.heap.size _)
 have k2'4:=u13.blkT (u5.blkT ((n2.blk.below hb3).below n4.below) n4.blk (by decide)) k1'4 (by decide)
 refine xsv 0 k2'4 [.slice none 0 0,.int .i64 0] fun W14 u14 k14=>?_
 have g2:=n2.ge n1.below
 have hQ'7:=(((hQ.below n4.below).only (Ze.of_upd (T:=[87]) u5 n4.blk (by decide)) (by decide)).only (Ze.of_upd (T:=[87]) u13 k1'4 (by decide)) (by decide)).updF u14 k2'4 hsF
 have hB'5:=u14.below (u13.below (u5.below (bln hB'1 n4.below) g4) g1) g2
 have k13'1:=u14.blkT k13 k2'4 (by decide)
 refine Tn 3 [(b1,[.slice pe ((Zj l root tree fuel).es.length) ce,.slice pb ((Zj l root tree fuel).bs.length) cb,.int .i64 ((Zj l root tree fuel).deep),.int .i64 (↑(Zj l root tree fuel).looked:Int),.slice pf fv.length cf]),(b2,[.slice none 0 0,.int .i64 0])] ⟨⟨_,k13'1⟩,⟨_,k14⟩,trivial⟩ (.tuple #[.agg #[.slice pe ((Zj l root tree fuel).es.length) ce,.slice pb ((Zj l root tree fuel).bs.length) cb,.int .i64 ((Zj l root tree fuel).deep),.int .i64 (↑(Zj l root tree fuel).looked:Int),.slice pf fv.length cf],.agg #[.slice none 0 0,.int .i64 0]]) ?_
 have hz:=hQ'7.s.none (by omega)
 exact⟨_,pe,pb,pf,ce,cb,cf,fv,none,0,rfl,by rw[(Ub hz).1,(Ub hz).2.1];rfl,hB'5,by rw[(Ub hz).1];exact hQ'7,by rw[(Ub hz).2.1];exact World.ownsRow_nil _ _ _ _⟩
theorem ref_OfM(a:Option Addr)(c n k:Nat)(l:List UInt8)(w:World)(hn:l.length=n)(hk:min (n/256) 14400=k)(h:Bys w (.slice a n c) l)(hl:n≤100000000) :
 Calls Tryz.prog 8 #[.slice a n c] w (Vn (fun w' r=>∃ bm p c2,r=.pointer (some ⟨bm,0,none⟩)∧w.heap.size≤bm∧RefI w.heap.size bm p k c2 (l.take (k*256)) w') w):=by
 subst hn hk;exact ref_Of a c l w h hl
end Go.Proofs.YthlakkdgcgkcdaaGreatDoor
namespace Go.Proofs.YthlakkdgcgkcdaaGreatDoor
set_option maxHeartbeats 8000000
set_option maxRecDepth 100000
open Go.RowKit
set_option linter.unusedVariables false
theorem run_cat{P:Program}{a:Act}{o:Oper}{t t2:TypeId}{x y:Operand}{l m:List UInt8}(ho:o.op=.binOp .add t x y t2)(hx:a.eval x=.string ⟨l.toArray⟩)(hy:a.eval y=.string ⟨m.toArray⟩)(hl:l.length+m.length≤1000000)(w:World):(execOp a.eval o).run P w=.ok (.value (.string ⟨(l++m).toArray⟩)) w:=by
 have e:(⟨l.toArray⟩:ByteArray)++⟨m.toArray⟩=⟨(l++m).toArray⟩:=by
  apply ByteArray.ext
  simp
 have g:binOp .add t (.string ⟨l.toArray⟩) (.string ⟨m.toArray⟩)=pure (.string ((⟨l.toArray⟩:ByteArray)++⟨m.toArray⟩)):=by
  have h:¬ (9223372036854775807:Int)<((⟨l.toArray⟩:ByteArray).size:Int)+((⟨m.toArray⟩:ByteArray).size:Int):=by simp[ByteArray.size];omega
  simp[binOp,Op.stringOp]
  intro q;exact absurd q h
 have q:eqGuard .add t x y (.string ⟨l.toArray⟩:Value) (.string ⟨m.toArray⟩:Value)=pure ():=rfl
 simp only[execOp,ho,hx,hy,g,e,q]
 simp
end Go.Proofs.YthlakkdgcgkcdaaGreatDoor
namespace Go.Proofs.YthlakkdgcgkcdaaGreatDoor
set_option maxHeartbeats 8000000
set_option maxRecDepth 100000
open Go.RowKit Go.Extern.Stop Go.Stop Go.Extern
set_option linter.unusedVariables false
attribute [local irreducible] wpList wpAnyH Code.wp Oper.wp Go
theorem Rm(n lo hi:Int)(w:World) :
 Calls Tryz.prog 102 #[.int .i64 n,.int .i64 lo,.int .i64 hi] w (Ret (.bool (decide (lo≤n∧n≤hi))) w):=by
 refine zin 15 Tryz.func102 ?_
 refine xg 11 [9,10] (decide (n≥lo)) (fun hc1=>?_) (fun hc1=>?_)
 ·have hc1:=of_decide_eq_true hc1
  exact xe 8 (.bool (decide (n≤hi))) ⟨by rw[show decide (lo≤n∧n≤hi)=decide (n≤hi) from by simp;omega],(Below.refl w.heap.size _)⟩
 have hc1:=of_decide_eq_false hc1
 exact xe 8 (.bool false) ⟨by rw[show decide (lo≤n∧n≤hi)=false from decide_eq_false (by omega)],(Below.refl w.heap.size _)⟩
def Zfw(N:List Int)(ws:List Nat)(k:Nat):List UInt8:=(List.range k).flatMap fun i=>leB (N.getD i 0) (ws.getD i 0)
theorem Fb(N:List Int)(ws:List Nat)(k:Nat):Zfw N ws (k+1)=Zfw N ws k++leB (N.getD k 0) (ws.getD k 0):=by simp[Zfw,List.range_succ]
def TxtOk(N:List Int)(ws:List Nat):Prop:=N.length≤100∧ws.length=N.length∧∀ i,i<N.length→0≤N.getD i 0∧N.getD i 0<9223372036854775808∧ws.getD i 0≤8
theorem Zf3{N:List Int}{ws:List Nat}(h:TxtOk N ws):∀ k,k≤N.length→(Zfw N ws k).length≤k*8
 | 0,_=>Nat.zero_le _
 | k+1,hk=>by
  rw[Fb,List.length_append,Zo]
  have:=Zf3 h k (by omega)
  have:=(h.2.2 k (by omega)).2.2
  omega
theorem Zds(N:List Int)(ws:List Nat)(gn gw:Option Addr)(cn cw:Nat)(w:World)(hok:TxtOk N ws)(hN:Sl w (.slice gn N.length cn) N.length (N.map (Value.int .i64)))(hW:Sl w (.slice gw N.length cw) N.length (ws.map nv)) :
 Calls Tryz.prog 103 #[.slice gn N.length cn,.slice gw N.length cw] w (Ret (.string ⟨(Zfw N ws N.length).toArray⟩) w):=by
 have hnl:=hok.1
 have hwl:=hok.2.1
 refine zin 26 Tryz.func103 ?_
 have hB:=Below.refl w.heap.size w
 refine zl 17 26 (fun zm zkv V=>∃ (i:Nat),zkv=[(0,.slice gn N.length cn),(1,.slice gw N.length cw),(4,.string ⟨#[]⟩),(5,.string ⟨(Zfw N ws i).toArray⟩),(6,.int .i64 (↑i:Int))]∧zm=N.length-((↑i:Int)).toNat∧Below w.heap.size w V∧i≤N.length) ⟨0,rfl,rfl,hB,Nat.zero_le _⟩ ?_
 rintro _ _ W1 ⟨i,rfl,rfl,hB_1,hi⟩ J1 hJ1 r1
 have htl:=Zf3 hok i hi
 have hw8:i<N.length→ws.getD i 0≤8:=fun q=>(hok.2.2 i q).2.2
 refine xid 9 ((↑i:Int)<(↑N.length:Int)) (fun hc2=>?_) (fun hc2=>?_)
 ·refine xd 4 .z ?_
  refine xx (.e [0,1,2] 3) _ N.length i 1 (IntsN.elem hN rfl (k:=i) (by omega)).1 ?_
  have hB'1:=bln hB_1 (Za W1)
  refine xl (.e [] 4) ((IntsN.elem (hN.below hB'1) rfl (k:=i) (by omega)).2) ?_
  refine xx (.e [5,6] 7) _ N.length i 1 (Zt hW hwl (k:=i) (by omega)).1 ?_
  refine xl (.e [] 8) ((Zt (hW.below hB'1) hwl (k:=i) (by omega)).2) ?_
  refine yc (.o [] 9) (args:=#[.int .i64 (N.getD i 0),.int .i64 (↑(ws.getD i 0):Int)]) .z (Ca (N.getD i 0) (ws.getD i 0) (↑(ws.getD i 0):Int) _ (hok.2.2 i (by omega)).1 (hok.2.2 i (by omega)).2.1 rfl (hok.2.2 i (by omega)).2.2) ?_
  rintro _ W3 ⟨_,rfl,hb3,p2,c2,rfl,h2⟩
  refine⟨hb3,?_⟩
  have h2'1:=Zd h2 hB'1.size
  refine xcv (.e [] 10) (fun _ _ _ zo zx V hV=>Qi zo zx (Qk (Zf (Zb h2'1 hV)) (Zo _ _)) (Zo _ _) Tryz.underlying22 Tryz.underlying5 Tryz.underlying9) ?_
  refine xbo (.e [] 11) (t:=9) (t2:=9) (fun _ _ _ _ zo zx zy V hV=>run_cat (l:=Zfw N ws i) (m:=leB (N.getD i 0) (ws.getD i 0)) zo zx zy (by rw[Zo];omega) V) ?_
  refine xwm (.r [12] 5) ((↑i:Int)+1) (↑(i+1):Int) ?_
  refine xv1 2 5 (show(.string ⟨(Zfw N ws i++leB (N.getD i 0) (ws.getD i 0)).toArray⟩:Value)=.string ⟨(Zfw N ws (i+1)).toArray⟩ from by rw[Fb]) ?_
  have hB'2:=bln hB'1 hb3
  exact ze 0 (hJ1 _ _ _ ⟨i+1,rfl,rfl,hB'2,by omega⟩ (by omega))
 refine xe 12 (.string ⟨(Zfw N ws i).toArray⟩) ?_
 obtain rfl:i=N.length:=by omega
 exact⟨rfl,hB_1⟩
def Cq(x y z:Int):Bool:=decide (1≤x∧x≤14399)&&decide (0≤y∧y≤960)&&decide (0≤z∧z≤960)
def SlotStrP(x y z:Int)(w:World)(e:Ending)(w':World):Prop :=
 (Cq x y z=false∧e=.returned (.string ⟨#[]⟩)∧Below w.heap.size w w')∨(Cq x y z=true∧e=.returned (.string ⟨(Zfw [x,y,z] [8,4,4] 3).toArray⟩)∧Below w.heap.size w w')
theorem slotQ_ok{x y z:Int}(h:Cq x y z=true):TxtOk [x,y,z] [8,4,4]:=by
 unfold Cq at h
 simp only[Bool.and_eq_true,decide_eq_true_iff] at h
 refine⟨show 3≤100 from by decide,rfl,fun i hi=>?_⟩
 have hi':i<3:=hi
 obtain rfl|rfl|rfl:i=0∨i=1∨i=2:=by omega
 all_goals simp[List.getD]
 all_goals omega
theorem txt3_ne(x y z:Int):((⟨(Zfw [x,y,z] [8,4,4] 3).toArray⟩:ByteArray).toList==(⟨#[]⟩:ByteArray).toList)=false:=by
 rw[show(⟨#[]⟩:ByteArray)=⟨([]:List UInt8).toArray⟩ from rfl,Ce]
 apply beq_false_of_ne
 intro q
 have h1:=congrArg List.length q
 rw[Fb,List.length_append,Zo,List.length_nil] at h1
 simp at h1
theorem Zhe(x y z:Int)(w:World) :
 Calls Tryz.prog 65 #[.agg #[.int .i64 x,.int .i64 y,.int .i64 z]] w (SlotStrP x y z w):=by
 refine zin 28 Tryz.func65 ?_
 refine xa 2 [.int .i64 x,.int .i64 y,.int .i64 z] 79 fun b1 W1 n1=>?_
 refine xb 7 0 n1.blk ?_
 refine xr 0 (args:=#[.int .i64 x,.int .i64 1,.int .i64 14399]) (Rm x 1 14399 _) fun W2 hb2=>?_
 refine xg 2 [6,7] (!(decide ((1:Int)≤x∧x≤14399))) (fun hc3=>?_) (fun hc3=>?_)
 ·have hd4:(decide ((1:Int)≤x∧x≤14399))=false:=not_t hc3
  have hB:=bln n1.below hb2
  exact xe 21 (.string ⟨#[]⟩) (.inl ⟨by unfold Cq;first|(rw[hd4];done)|(rw[hd4];rfl),rfl,hB⟩)
 have hd5:(decide ((1:Int)≤x∧x≤14399))=true:=not_f hc3
 have k1'1:=n1.blk.below hb2
 refine xb 1 1 k1'1 ?_
 refine xr 0 (args:=#[.int .i64 y,.int .i64 0,.int .i64 960]) (Rm y 0 960 _) fun W6 hb6=>?_
 refine xg 3 [11,12,13] (!(decide ((0:Int)≤y∧y≤960))) (fun hc7=>?_) (fun hc7=>?_)
 ·have hd8:(decide ((0:Int)≤y∧y≤960))=false:=not_t hc7
  have hB:=bln (bln n1.below hb2) hb6
  exact xe 15 (.string ⟨#[]⟩) (.inl ⟨by unfold Cq;first|(rw[hd5,hd8];done)|(rw[hd5,hd8];rfl),rfl,hB⟩)
 have hd9:(decide ((0:Int)≤y∧y≤960))=true:=not_f hc7
 have k1'2:=k1'1.below hb6
 refine xb 1 2 k1'2 ?_
 refine xr 0 (args:=#[.int .i64 z,.int .i64 0,.int .i64 960]) (Rm z 0 960 _) fun W10 hb10=>?_
 refine xi 4 (!(decide ((0:Int)≤z∧z≤960))) (fun hc11=>?_) (fun hc11=>?_)
 ·have hd12:(decide ((0:Int)≤z∧z≤960))=false:=not_t hc11
  have hB:=bln (bln (bln n1.below hb2) hb6) hb10
  exact xe 7 (.string ⟨#[]⟩) (.inl ⟨by unfold Cq;first|(rw[hd5,hd9,hd12];done)|(rw[hd5,hd9,hd12];rfl),rfl,hB⟩)
 have hd13:(decide ((0:Int)≤z∧z≤960))=true:=not_f hc11
 have k1'3:=k1'2.below hb10
 refine xb 5 0 k1'3 ?_
 refine xb 1 1 k1'3 ?_
 refine xb 1 2 k1'3 ?_
 refine xbs 0 3 [.int .i64 x,.int .i64 y,.int .i64 z] 3 fun b14 W14 n14=>?_
 refine xbs 0 3 [.int .i64 8,.int .i64 4,.int .i64 4] 3 fun b15 W15 n15=>?_
 have d15_b14:=n15.ne n14.blk
 have hsb:Cq x y z=true:=by
  unfold Cq
  rw[hd5,hd9,hd13];rfl
 have k14'1:=n14.blk.below n15.below
 refine xr 0 (args:=#[.slice (some ⟨b14,0,none⟩) 3 3,.slice (some ⟨b15,0,none⟩) 3 3]) (Zds [x,y,z] [8,4,4] (some ⟨b14,0,none⟩) (some ⟨b15,0,none⟩) 3 3 _ (slotQ_ok hsb) (k14'1.sl 3 3 (by decide) (by decide)) (n15.blk.sl 3 3 (by decide) (by decide))) fun W16 hb16=>?_
 have hB:=bln (bln (bln (bln (bln (bln n1.below hb2) hb6) hb10) n14.below) n15.below) hb16
 exact xe 4 (.string ⟨(Zfw [x,y,z] [8,4,4] 3).toArray⟩) (.inr ⟨hsb,rfl,hB⟩)
end Go.Proofs.YthlakkdgcgkcdaaGreatDoor
namespace Go.Proofs.YthlakkdgcgkcdaaGreatDoor
set_option maxHeartbeats 8000000
set_option maxRecDepth 100000
open Go.RowKit
set_option linter.unusedVariables false
section
variable {P:Program} {a:Act}
theorem str_ext(l:List UInt8)(b c:Nat):(ByteArray.mk l.toArray).extract b c=ByteArray.mk ((l.drop b).take (c-b)).toArray:=ByteArray.extract_mk l b c
theorem run_strH{o:Oper}{t:TypeId}{x y:Operand}{l:List UInt8}{k:Nat}{j:Int}{kj:IntKind}(ho:o.op=.slice t x none (some y) none)(hx:a.eval x=.string ⟨l.toArray⟩)(hy:a.eval y=.int kj j)(hj:j=(k:Int))(hk:k≤l.length)
 (ht:P.underlying t=some .string) (w:World):(execOp a.eval o).run P w=.ok (.value (.string ⟨(l.take k).toArray⟩)) w:=by
 subst hj
 have hs:((k:Int))≤((⟨l.toArray⟩:ByteArray).size:Int):=by simp[ByteArray.size];omega
 have h:=run_slice_string_h (P:=P) (w:=w) (t:=t) (s:=⟨l.toArray⟩) ht kj (k:Int) (by omega) hs
 rw[str_ext,List.drop_zero,Int.toNat_natCast,Nat.sub_zero] at h
 simp only[execOp,ho,hx,Option.map_some,Option.map_none,hy]
 simp[run_sliceAt_string,ht,h]
theorem run_strL{o:Oper}{t:TypeId}{x y:Operand}{l:List UInt8}{k:Nat}{j:Int}{kj:IntKind}(ho:o.op=.slice t x (some y) none none)(hx:a.eval x=.string ⟨l.toArray⟩)(hy:a.eval y=.int kj j)(hj:j=(k:Int))(hk:k≤l.length)
 (ht:P.underlying t=some .string) (w:World):(execOp a.eval o).run P w=.ok (.value (.string ⟨(l.drop k).toArray⟩)) w:=by
 subst hj
 have hs:((k:Int))≤((⟨l.toArray⟩:ByteArray).size:Int):=by simp[ByteArray.size];omega
 have h:=run_slice_string_l (P:=P) (w:=w) (t:=t) (s:=⟨l.toArray⟩) ht kj (k:Int) (by omega) hs
 rw[str_ext,Int.toNat_natCast,show(⟨l.toArray⟩:ByteArray).size=l.length by simp[ByteArray.size],List.take_of_length_le (by simp)] at h
 simp only[execOp,ho,hx,Option.map_some,Option.map_none,hy]
 simp[run_sliceAt_string,ht,h]
end
end Go.Proofs.YthlakkdgcgkcdaaGreatDoor
namespace Go.Proofs.YthlakkdgcgkcdaaGreatDoor
set_option maxHeartbeats 8000000
set_option maxRecDepth 100000
open Go.RowKit Go.Extern.Stop Go.Stop Go.Extern
set_option linter.unusedVariables false
attribute [local irreducible] wpList wpAnyH Code.wp Oper.wp Go
def Xo:List Nm:=[(8,1,14399),(4,0,960),(4,0,960)]
theorem slotP_ok:Wi Xo:=by
 refine⟨by decide,fun i hi=>?_⟩
 have hi':i<3:=hi
 obtain rfl|rfl|rfl:i=0∨i=1∨i=2:=by omega
 all_goals simp[Xo,List.getD]
def Vt(l:List UInt8)(i:Nat):List UInt8:=(l.drop (4+i*16)).take 16
def Qu(l:List UInt8)(i k:Nat):Nat:=(Xy Xo (Vt l i)).getD k 0
def Zd1(x:Nat×Nat×Nat):List Value:=[.int .i64 (x.1:Int),.int .i64 (x.2.1:Int),.int .i64 (x.2.2:Int)]
theorem Ez(x:Nat×Nat×Nat):(Zd1 x).length=3:=rfl
def sltX(l:List UInt8)(i:Nat):Nat×Nat×Nat:=(Qu l i 0,Qu l i 1,Qu l i 2)
def Lv(l:List UInt8)(n:Nat):List (Nat×Nat×Nat):=(List.range n).map (sltX l)
theorem Ob(l:List UInt8)(n:Nat):Lv l (n+1)=Lv l n++[sltX l n]:=by simp[Lv,List.range_succ]
theorem sltsL_len(l:List UInt8)(n:Nat):(Lv l n).length=n:=by simp[Lv]
def Nl(l:List UInt8):Nat→Int
 | 0=>0
 | i+1=>if Nl l i≠0 then Nl l i else Xq Xo (Vt l i)
theorem Ap{l:List UInt8}{i:Nat}(h:Nl l i≠0):∀ n,i≤n→Nl l n=Nl l i
 | 0,h2=>by
  obtain rfl:i=0:=by omega
  rfl
 | n+1,h2=>by
   by_cases e:i=n+1
   ·rw[e]
   ·have ih:=Ap h n (by omega)
    rw[Nl,if_pos (by rw[ih];exact h),ih]
theorem Zg7{l:List UInt8}{i n:Nat}(h:Nl l i=0)(he:Xq Xo (Vt l i)≠0)(hi:i<n):Nl l n=Xq Xo (Vt l i):=by
 have e:Nl l (i+1)=Xq Xo (Vt l i):=by rw[Nl,if_neg (by rw[h];decide)]
 rw[Ap (by rw[e];exact he) n hi,e]
theorem Tx{l:List UInt8}{i:Nat}(h:Nl l i=0)(he:Xq Xo (Vt l i)=0):Nl l (i+1)=0:=by rw[Nl,if_neg (by rw[h];decide),he]
theorem Mr{l:List UInt8}{i:Nat}(hl:l.length=244)(hi:i<15):(Vt l i).length=16:=by simp[Vt];omega
theorem slot_two{l:List UInt8}{i:Nat}(hl:l.length=244)(hi:i<15):Xq Xo (Vt l i)=0∨Xq Xo (Vt l i)=2:=by
 unfold Xq
 rw[if_pos (by rw[Mr hl hi];rfl)]
 split
 ·exact .inl rfl
 ·exact .inr rfl
def Bn(l:List UInt8):Bool:=decide (Zh l 0 4≤15)&&Vc (l.drop (4+Zh l 0 4*16))
def Bc(l:List UInt8):Int:=if Bn l then Nl l (Zh l 0 4) else 7
def SlotsP(l:List UInt8)(w:World)(e:Ending)(w':World):Prop :=
 (Bc l≠0∧e=.returned (.tuple #[.slice none 0 0,.int .i64 (Bc l)])∧Below w.heap.size w w') ∨
 (Bc l=0∧∃ p c,e=.returned (.tuple #[.slice p (Zh l 0 4) c,.int .i64 0])∧Below w.heap.size w w'∧w'.ownsRow w.heap.size 79 3 (.slice p (Zh l 0 4) c) (Zh l 0 4) ((Lv l (Zh l 0 4)).flatMap Zd1))
theorem Ze1(w:World) :
 Calls Tryz.prog 59 #[] w (Vn (fun w' r=>∃ b,r=.slice (some ⟨b,0,none⟩) 3 3∧w.heap.size≤b∧Blk w' b [.int .i64 8,.int .i64 1,.int .i64 14399,.int .i64 4,.int .i64 0,.int .i64 960,.int .i64 4,.int .i64 0,.int .i64 960] 176) w):=by
 refine zin 5 Tryz.func59 ?_
 refine xbs 10 3 [.int .i64 8,.int .i64 1,.int .i64 14399,.int .i64 4,.int .i64 0,.int .i64 960,.int .i64 4,.int .i64 0,.int .i64 960] 176 fun b1 W1 n1=>?_
 have g1:=n1.ge (Below.refl w.heap.size _)
 exact xe 4 (.slice (some ⟨b1,0,none⟩) 3 3) ⟨_,rfl,n1.below,_,rfl,g1,n1.blk⟩
theorem Nq(s:List UInt8)(w:World)(hs:s.length≤1000) :
 Calls Tryz.prog 32 #[.string ⟨s.toArray⟩] w (Ret (.tuple #[.agg #[.int .i64 (↑((Xy Xo s).getD 0 0):Int),.int .i64 (↑((Xy Xo s).getD 1 0):Int),.int .i64 (↑((Xy Xo s).getD 2 0):Int)],.int .i64 (Xq Xo s)]) w):=by
 refine zin 23 Tryz.func32 ?_
 refine xa 2 [.int .i64 0,.int .i64 0,.int .i64 0] 79 fun b1 W1 n1=>?_
 refine xc 5 (args:=#[]) (Ze1 _) ?_
 rintro _ W2 ⟨_,rfl,hb2,gl,rfl,gg,kl⟩
 refine xc 1 (args:=#[.slice (some ⟨gl,0,none⟩) 3 3,.string ⟨s.toArray⟩]) (Fl Xo s (some ⟨gl,0,none⟩) 3 _ slotP_ok (by decide) (by omega) (kl.sl 3 3 (by decide) (by decide))) ?_
 rintro _ W3 ⟨_,rfl,hb3,p5,c5,rfl,h5⟩
 have hs3:=(bln n1.below hb2).size
 refine xd 8 (.t w.heap.size [79]) ?_
 have h5'1:=Zb (Zd h5 hs3) (Za W3)
 refine xx (.e [0] 1) _ 3 0 1 (Zt (l:=Xy Xo s) (Zf h5'1) (Jy _ _) (k:=0) (by decide)).1 ?_
 refine xlt (.e [] 2) (.t w.heap.size [79]) (fun V hV=>(Zt (l:=Xy Xo s) (Zf (Zl h5'1 hV.2 (by decide))) (Jy _ _) (k:=0) (by decide)).2) ?_
 refine xx (.e [3] 4) _ 3 1 1 (Zt (l:=Xy Xo s) (Zf h5'1) (Jy _ _) (k:=1) (by decide)).1 ?_
 refine xlt (.e [] 5) (.t w.heap.size [79]) (fun V hV=>(Zt (l:=Xy Xo s) (Zf (Zl h5'1 hV.2 (by decide))) (Jy _ _) (k:=1) (by decide)).2) ?_
 refine xx (.e [6] 7) _ 3 2 1 (Zt (l:=Xy Xo s) (Zf h5'1) (Jy _ _) (k:=2) (by decide)).1 ?_
 refine xlt (.e [] 8) (.t w.heap.size [79]) (fun V hV=>(Zt (l:=Xy Xo s) (Zf (Zl h5'1 hV.2 (by decide))) (Jy _ _) (k:=2) (by decide)).2) ?_
 have k1:=((n1.blk.below hb2).below hb3).below (Za W3)
 have g1:=n1.ge (Below.refl w.heap.size _)
 refine ysv (.o [9,10] 11) k1 [.int .i64 (↑((Xy Xo s).getD 0 0):Int),.int .i64 (↑((Xy Xo s).getD 1 0):Int),.int .i64 (↑((Xy Xo s).getD 2 0):Int)] (.t w.heap.size [79]) fun W4 u4 k4=>⟨(Zi u4 k1 g1 (by decide)),?_⟩
 have hB:=u4.below (bln (bln (bln n1.below hb2) hb3) (Za W3)) g1
 exact xec (.r [12] 3) k4 (.tuple #[.agg #[.int .i64 (↑((Xy Xo s).getD 0 0):Int),.int .i64 (↑((Xy Xo s).getD 1 0):Int),.int .i64 (↑((Xy Xo s).getD 2 0):Int)],.int .i64 (Xq Xo s)]) ⟨rfl,hB⟩
theorem slots_next(B bt:Nat)(x:List UInt8)(w:World)(hBw:B≤w.heap.size)(hBt:B≤bt)(kt:Blk w bt [.string ⟨x.toArray⟩] 9)(hx:16≤x.length) :
 Calls Tryz.prog 117 #[.pointer (some ⟨bt,0,none⟩)] w ((fun e w'=>e=.returned (.string ⟨(x.take 16).toArray⟩)∧Below B w w'∧Ze [9] w w'∧Blk w' bt [.string ⟨(x.drop 16).toArray⟩] 9)):=by
 refine zin 8 Tryz.func117 ?_
 refine xb 7 0 kt ?_
 refine xsH 0 (fun _ _ _ _ zo zx zy V=>run_strH (k:=16) (j:=16) (kj:=.i64) zo zx zy rfl hx Tryz.underlying9 V) ?_
 refine xb 5 0 kt ?_
 refine xsL 0 (fun _ _ _ _ zo zx zy V=>run_strL (k:=16) (j:=16) (kj:=.i64) zo zx zy rfl hx Tryz.underlying9 V) ?_
 refine xs 0 kt [.string ⟨(x.drop 16).toArray⟩] fun W1 u1 k1=>?_
 have hB:=u1.below (Below.refl B w) hBt
 have hO:=(show Ze [9] w _ from(Ze.of_upd u1 kt (by decide)))
 exact xe 9 (.string ⟨(x.take 16).toArray⟩) ⟨rfl,hB,hO,k1⟩
theorem Fu(l:List UInt8)(i:Nat)(w:World)(hs:(Vt l i).length≤1000):Calls Tryz.prog 32 #[.string ⟨(Vt l i).toArray⟩] w (fun e w' =>
 (Xq Xo (Vt l i)=0∧e=.returned (.tuple #[.agg #[.int .i64 (Qu l i 0:Int),.int .i64 (Qu l i 1:Int),.int .i64 (Qu l i 2:Int)],.int .i64 0])∧Below w.heap.size w w') ∨
 (Xq Xo (Vt l i)≠0∧e=.returned (.tuple #[.agg #[.int .i64 (Qu l i 0:Int),.int .i64 (Qu l i 1:Int),.int .i64 (Qu l i 2:Int)],.int .i64 (Xq Xo (Vt l i))])∧Below w.heap.size w w')):=by
 refine(Nq (Vt l i) w hs).mono ?_
 rintro e W ⟨rfl,hb⟩
 by_cases h:Xq Xo (Vt l i)=0
 ·exact .inl ⟨h,by rw[h];rfl,hb⟩
 ·exact .inr ⟨h,rfl,hb⟩
theorem bysK{w:World}{a:Option Addr}{c k:Nat}{l:List UInt8}(h:Bys w (.slice a 244 c) l)(hl:l.length=244)(hk:k≤244):Bys w (.slice (Qm a k c 1) (244-k) (c-k)) (l.drop k):=by
 have:=Bys.cut h hl k 244 hk (by decide)
 rwa [List.take_of_length_le (by simp;omega)] at this
theorem slots_Read(a:Option Addr)(c:Nat)(l:List UInt8)(w:World)(hl:l.length=244)(h:Bys w (.slice a 244 c) l) :
 Calls Tryz.prog 72 #[.slice a 244 c] w (SlotsP l w):=by
 have hcap:=Bys.cap h hl
 refine zin 52 Tryz.func72 ?_
 refine xr 20 (args:=#[.slice a 244 c,.int .i64 0,.int .i64 4]) (Get_okN a 244 c 0 4 0 4 l _ hl rfl rfl (by decide) (by decide) (by decide) (h.below (Below.refl w.heap.size _))) fun W1 hb1=>?_
 refine xg 13 [20,21] (decide ((↑(Zh l 0 4):Int)>(15:Int))) (fun hc2=>?_) (fun hc2=>?_)
 ·have hc2:=of_decide_eq_true hc2
  refine xe 19 (.tuple #[.slice none 0 0,.int .i64 7]) ?_
  have he:Bc l=7:=by unfold Bc Bn;rw[decide_eq_false (by omega),Bool.false_and,if_neg (by decide)]
  exact .inl ⟨by rw[he];decide,by rw[he],hb1⟩
 have hc2:=of_decide_eq_false hc2
 refine xwm 2 ((↑(Zh l 0 4):Int)*16) (↑((Zh l 0 4)*16):Int) ?_
 refine xwm 0 (4+(↑((Zh l 0 4)*16):Int)) (↑(4+((Zh l 0 4)*16)):Int) ?_
 refine xsL 0 (fun _ _ _ _ zo zx zy V=>Yg (k:=(4+((Zh l 0 4)*16))) (b:=a) (n:=244) (c:=c) (i:=(↑(4+((Zh l 0 4)*16)):Int)) (ki:=.i64) 1 zo zx zy rfl (by omega) Tryz.underlying22 (by kernel_rfl) V) ?_
 refine xr 0 (args:=#[.slice (Qm a (4+((Zh l 0 4)*16)) c 1) (244-(4+((Zh l 0 4)*16))) (c-(4+((Zh l 0 4)*16)))]) (Bj (Qm a (4+((Zh l 0 4)*16)) c 1) (244-(4+((Zh l 0 4)*16))) (c-(4+((Zh l 0 4)*16))) (l.drop (4+Zh l 0 4*16)) _ (by simp;omega) (by omega) ((bysK (k:=4+Zh l 0 4*16) h hl (by omega)).below hb1)) fun W3 hb3=>?_
 refine xi 4 (!(Vc (l.drop (4+Zh l 0 4*16)))) (fun hc4=>?_) (fun hc4=>?_)
 ·have hze:Vc (l.drop (4+Zh l 0 4*16))=false:=not_t hc4
  have hB'1:=bln hb1 hb3
  refine xe 8 (.tuple #[.slice none 0 0,.int .i64 7]) ?_
  have he:Bc l=7:=by unfold Bc Bn;rw[hze,Bool.and_false,if_neg (by decide)]
  exact .inl ⟨by rw[he];decide,by rw[he],hB'1⟩
 have hze:Vc (l.drop (4+Zh l 0 4*16))=true:=not_f hc4
 refine xsL 5 (fun _ _ _ _ zo zx zy V=>Yg (k:=4) (b:=a) (n:=244) (c:=c) (i:=4) (ki:=.i64) 1 zo zx zy rfl (by omega) Tryz.underlying22 (by kernel_rfl) V) ?_
 have hB'2:=bln hb1 hb3
 refine xcv0 0 (fun _ _ _ zo zx=>Qi zo zx ((bysK (k:=4) h hl (by decide)).below hB'2) (by simp;omega) Tryz.underlying22 Tryz.underlying5 Tryz.underlying9) ?_
 refine xa 0 [.string ⟨#[]⟩] 9 fun b5 W5 n5=>?_
 have g5:=n5.ge hB'2
 refine xs 0 n5.blk [.string ⟨(l.drop 4).toArray⟩] fun W6 u6 k6=>?_
 have kt0:Blk _ _ [.string ⟨((l.drop (4+0*16))).toArray⟩] _:=k6
 have hB'3:=u6.below (bln hB'2 n5.below) g5
 refine zl 21 52 (fun zm zkv V=>∃ (i:Nat) (q:Option Addr) (d:Nat),zkv=[(7,.func (.func 117) #[] #[.pointer (some ⟨b5,0,none⟩)]),(8,.slice q i d),(34,.int .i64 (↑(Zh l 0 4):Int)),(35,.int .i64 (↑i:Int))]∧zm=(Zh l 0 4)-((↑i:Int)).toNat∧Below w.heap.size w V∧Blk V b5 ([.string ⟨(l.drop (4+i*16)).toArray⟩]) 9∧V.ownsRow w.heap.size 79 3 (.slice q i d) i ((Lv l i).flatMap Zd1)∧i≤(Zh l 0 4)∧Nl l i=0) ⟨0,_,_,rfl,rfl,hB'3,kt0,World.ownsRow_nil _ _ _ _,Nat.zero_le _,rfl⟩ ?_
 rintro _ _ W7 ⟨i,q,d,rfl,rfl,hB_7,k7_b5,ho,hi,hz⟩ J7 hJ7 r7
 refine xid 6 ((↑i:Int)<(↑(Zh l 0 4):Int)) (fun hc8=>?_) (fun hc8=>?_)
 ·refine xc 7 (args:=#[.pointer (some ⟨b5,0,none⟩)]) (slots_next w.heap.size b5 (l.drop (4+i*16)) _ hB_7.size g5 k7_b5 (by simp;omega)) ?_
  rintro _ W9 ⟨rfl,hb9,hO9,kN9⟩
  rw[List.drop_drop,show 4+i*16+16=4+(i+1)*16 by omega] at kN9
  refine xc 0 (args:=#[.string ⟨(Vt l i).toArray⟩]) (Fu l i _ (by rw[Mr hl (by omega)];decide)) ?_
  rintro e W10 hq10
  rcases hq10 with ⟨hz0,rfl,hb10⟩|⟨hz0,rfl,hb10⟩
  ·refine xa 3 [.int .i64 0,.int .i64 0,.int .i64 0] 79 fun b11 W11 n11=>?_
   have hB'4:=bln (hB_7.trans hb9) hb10
   have g11:=n11.ge hB'4
   have ho'1:=Zb (Zl ho hO9 (by decide)) hb10
   have r11_ho:=Zu ho'1 n11
   refine xsv 0 n11.blk [.int .i64 (↑(Qu l i 0):Int),.int .i64 (↑(Qu l i 1):Int),.int .i64 (↑(Qu l i 2):Int)] fun W12 u12 k12=>?_
   refine xlv 15 k12.rp ?_
   refine xbs 0 1 [.int .i64 (↑(Qu l i 0):Int),.int .i64 (↑(Qu l i 1):Int),.int .i64 (↑(Qu l i 2):Int)] 79 fun b13 W13 n13=>?_
   have d13_b11:=n13.ne k12
   have hB'5:=u12.below (bln hB'4 n11.below) g11
   have g13:=n13.ge hB'5
   have ho'2:=u12.own3 (Zb ho'1 n11.below) r11_ho
   have r13_ho:=Zu ho'2 n13
   have ho'3:=Zb ho'2 n13.below
   have hB'6:=bln hB'5 n13.below
   refine xbi 0 fun _ _ _ _ zJ zQ zo zx zy zK=>Zp (m:=1) (news:=[.int .i64 (↑(Qu l i 0):Int),.int .i64 (↑(Qu l i 1):Int),.int .i64 (↑(Qu l i 2):Int)]) (.agg #[.int .i64 0,.int .i64 0,.int .i64 0]) 3 24 (i+1) (((Lv l (i+1)).flatMap Zd1)) zo Tryz.underlying99 (by kernel_rfl) rfl (by decide) zx ho'3 zy (n13.blk.sl 1 1 (by decide) (by decide)) rfl (by simp[Value.oneCell']) (by unfold maxLen;omega) (by omega) hB'6.size (by rfl) (by rw[Ob,List.flatMap_append];rfl) fun px14 cx14 W14 o14 hg14 hb14=>?_
   refine zK _ _ ?_
   refine xwm 5 ((↑i:Int)+1) (↑(i+1):Int) ?_
   have hB'7:=hB'6.trans hb14
   have kN9'1:=((u12.blkT ((kN9.below hb10).below n11.below) n11.blk (by decide)).below n13.below).grown hg14 ho'3 (by decide)
   exact ze 2 (hJ7 _ _ _ ⟨i+1,_,_,rfl,rfl,hB'7,kN9'1,o14,by omega,Tx hz hz0⟩ (by omega))
  refine xa 3 [.int .i64 0,.int .i64 0,.int .i64 0] 79 fun b15 W15 n15=>?_
  have hB'8:=bln (hB_7.trans hb9) hb10
  have g15:=n15.ge hB'8
  have ho'4:=Zb (Zl ho hO9 (by decide)) hb10
  have r15_ho:=Zu ho'4 n15
  refine xsv 0 n15.blk [.int .i64 (↑(Qu l i 0):Int),.int .i64 (↑(Qu l i 1):Int),.int .i64 (↑(Qu l i 2):Int)] fun W16 u16 k16=>?_
  refine xk 10 (show(((Xq Xo (Vt l i)) != (0:Int)):Bool)=true from bne_iff_ne.2 hz0) ?_
  have hB'9:=u16.below (bln hB'8 n15.below) g15
  refine xe 14 (.tuple #[.slice none 0 0,.int .i64 (Xq Xo (Vt l i))]) ?_
  have hok:Bn l=true:=by unfold Bn;rw[hze,decide_eq_true (by omega)];rfl
  have he:Bc l=Xq Xo (Vt l i):=by unfold Bc;rw[if_pos hok,Zg7 hz hz0 (by omega)]
  exact .inl ⟨by rw[he];exact hz0,by rw[he],hB'9⟩
 refine xe 13 (.tuple #[.slice q i d,.int .i64 0]) ?_
 have hok:Bn l=true:=by unfold Bn;rw[hze,decide_eq_true (by omega)];rfl
 obtain rfl:i=Zh l 0 4:=by omega
 exact .inr ⟨by unfold Bc;rw[if_pos hok,hz],_,_,rfl,hB_7,ho⟩
def Xw(l:List UInt8)(no:Int):Int:=if inE l 4 no=0 then Bc (inB l no) else inE l 4 no
def BlkIdxP(l:List UInt8)(no:Int)(w:World)(e:Ending)(w':World):Prop :=
 (Xw l no≠0∧∃ b,e=.returned (.tuple #[.slice none 0 0,.iface 123 (.pointer (some ⟨b,0,none⟩))])∧Below w.heap.size w w'∧Ja w' [some no] (some (Xw l no)) (.iface 123 (.pointer (some ⟨b,0,none⟩)))) ∨
 (Xw l no=0∧∃ p c,e=.returned (.tuple #[.slice p (Zh (inB l no) 0 4) c,.nilIface])∧Below w.heap.size w w'∧w'.ownsRow w.heap.size 79 3 (.slice p (Zh (inB l no) 0 4) c) (Zh (inB l no) 0 4) ((Lv (inB l no) (Zh (inB l no) 0 4)).flatMap Zd1))
theorem readIdx(B b:Nat)(p:Option Addr)(n c:Nat)(l:List UInt8)(no:Int)(w:World)(hI:ImgR B b p n c l w) :
 Calls Tryz.prog 71 #[.pointer (some ⟨b,0,none⟩),.int .i64 no,.int .i64 4,.func (.func 72) #[] #[]] w (BlkIdxP l no w):=by
 refine zin 56 Tryz.func71 ?_
 refine xc 15 (args:=#[.pointer (some ⟨b,0,none⟩),.int .i64 no]) (Bv B b p n c l no _ (hI.below (Below.refl w.heap.size _))) ?_
 rintro e W1 hq1
 rcases hq1 with ⟨ho,vr,rfl,hb1⟩|⟨j,hk,hj,p2,c2,rfl,hb1,ho⟩
 ·refine xc 21 (args:=#[.int .i64 no,.iface 51 (.int .i64 3)]) (Yo no 3 _) ?_
  rintro _ W2 ⟨_,rfl,hb2,hv2⟩
  rw[if_neg (by decide),if_neg (by decide)] at hv2
  have hq2:=hv2
  obtain⟨bf2,vf2,rfl,_,_⟩:=hq2
  have hB:=bln hb1 hb2
  refine xe 6 (.tuple #[.slice none 0 0,.iface 123 (.pointer (some ⟨bf2,0,none⟩))]) ?_
  have he:Xw l no=3:=by unfold Xw;rw[Sb hI.len ho];rfl
  exact .inl ⟨by rw[he];decide,_,rfl,hB,by rw[he];exact hv2⟩
 have hs1:=Nat.le_refl w.heap.size
 have hj2:j<l.length/256:=by rw[hI.len];exact hj
 have hlj:=Vw hj2
 have he2:=Of (l:=l) (kind:=4) hI.len hk hj
 have ho'1:=Zd ho hs1
 refine xc 22 (args:=#[.slice p2 256 c2,.int .i64 4,.int .i64 no]) (Ak 4 no p2 256 c2 (Vy l j) _ hlj (Qk (Zf ho'1) hlj)) ?_
 rintro e W3 hq3
 rcases hq3 with ⟨hs,rfl,hb3⟩|⟨hs,p3,c3,rfl,hb3,h3⟩
 ·refine xk 14 (show(((Ye 4 no (Vy l j)) != (0:Int)):Bool)=true from bne_iff_ne.2 hs) ?_
  refine xc 6 (args:=#[.int .i64 no,.iface 51 (.int .i64 (Ye 4 no (Vy l j)))]) (Yo no (Ye 4 no (Vy l j)) _) ?_
  rintro _ W4 ⟨_,rfl,hb4,hv4⟩
  rw[if_neg hs,if_neg hs] at hv4
  have hq4:=hv4
  obtain⟨bf4,vf4,rfl,_,_⟩:=hq4
  have hB:=bln (bln hb1 hb3) hb4
  refine xe 6 (.tuple #[.slice none 0 0,.iface 123 (.pointer (some ⟨bf4,0,none⟩))]) ?_
  have he:Xw l no=Ye 4 no (Vy l j):=by unfold Xw;rw[he2,if_neg hs]
  exact .inl ⟨by rw[he];exact hs,_,rfl,hB,by rw[he];exact hv4⟩
 have h3'1:=Zd h3 hb1.size
 have hin:((Vy l j).drop 8).take 244=inB l no:=(Iz hk).symm
 have hil:=Zeu hI.len hk hj
 rw[hin] at h3'1
 refine xc 21 (args:=#[.slice p3 244 c3]) (slots_Read p3 c3 (inB l no) _ hil (Qk (Zf h3'1) hil)) ?_
 rintro e W5 hq5
 rcases hq5 with ⟨hz,rfl,hb5⟩|⟨hz,p4,c4,rfl,hb5,h4⟩
 ·refine xk 14 (show(((Bc (inB l no)) != (0:Int)):Bool)=true from bne_iff_ne.2 hz) ?_
  refine xc 6 (args:=#[.int .i64 no,.iface 51 (.int .i64 (Bc (inB l no)))]) (Yo no (Bc (inB l no)) _) ?_
  rintro _ W6 ⟨_,rfl,hb6,hv6⟩
  rw[if_neg hz,if_neg hz] at hv6
  have hq6:=hv6
  obtain⟨bf6,vf6,rfl,_,_⟩:=hq6
  have hB:=bln (bln (bln hb1 hb3) hb5) hb6
  refine xe 6 (.tuple #[.slice none 0 0,.iface 123 (.pointer (some ⟨bf6,0,none⟩))]) ?_
  have he:Xw l no=Bc (inB l no):=by unfold Xw;rw[he2,if_pos hs]
  exact .inl ⟨by rw[he];exact hz,_,rfl,hB,by rw[he];exact hv6⟩
 have hs5:=(bln hb1 hb3).size
 have hB:=bln (bln hb1 hb3) hb5
 have h4'1:=Zd h4 hs5
 exact xe 25 (.tuple #[.slice p4 (Zh (inB l no) 0 4) c4,.nilIface]) (.inr ⟨by unfold Xw;rw[he2,if_pos hs,hz],_,_,rfl,hB,h4'1⟩)
theorem Zem(B b:Nat)(p:Option Addr)(n c:Nat)(l:List UInt8)(no:Int)(w:World)(hI:ImgR B b p n c l w) :
 Calls Tryz.prog 43 #[.pointer (some ⟨b,0,none⟩),.int .i64 no] w (BlkIdxP l no w):=by
 refine zin 11 Tryz.func43 ?_
 refine xc 10 (args:=#[.pointer (some ⟨b,0,none⟩),.int .i64 no,.int .i64 4,.func (.func 72) #[] #[]]) (readIdx B b p n c l no _ (hI.below (Below.refl w.heap.size _))) ?_
 rintro e W1 hq1
 rcases hq1 with ⟨he,bf,rfl,hb1,hv⟩|⟨he,p4,c4,rfl,hb1,h4⟩
 ·exact xe 7 (.tuple #[.slice none 0 0,.iface 123 (.pointer (some ⟨bf,0,none⟩))]) (.inl ⟨he,_,rfl,hb1,hv⟩)
 have hs1:=Nat.le_refl w.heap.size
 have h4'1:=Zd h4 hs1
 exact xe 7 (.tuple #[.slice p4 (Zh (inB l no) 0 4) c4,.nilIface]) (.inr ⟨he,_,_,rfl,hb1,h4'1⟩)
theorem Zdl(kind no:Int)(a:Option Addr)(n c:Nat)(l:List UInt8)(w:World)(hn:l.length=n)(h:Bys w (.slice a n c) l):Calls Tryz.prog 114 #[.slice a n c,.int .i64 kind,.int .i64 no] w (OpenP kind no l w):=by
 subst hn;exact Za5 kind no a c l w h
theorem bits_ReadN(a:Option Addr)(n c:Nat)(l:List UInt8)(w:World)(hn:l.length=n)(hl:n≤100000000)(h:Bys w (.slice a n c) l):Calls Tryz.prog 145 #[.slice a n c] w (BitsP l w):=by
 subst hn;exact bits_Read a c l w hl h
def Ue(l:List UInt8):Bool:=decide (l.length=244)&&decide (Zh l 0 4≤960)&&(List.range 960).all fun i=>decide (i<Zh l 0 4)||Sv l i==0
theorem Js(l:List UInt8):Ue l=true↔Zg5 l:=by
 unfold Ue Zg5
 simp only[Bool.and_eq_true,decide_eq_true_eq,List.all_eq_true,List.mem_range,Bool.or_eq_true,beq_iff_eq]
 constructor
 ·rintro⟨⟨h1,h2⟩,h3⟩
  exact⟨h1,h2,fun i hi hc=>(h3 i hi).resolve_left (by omega)⟩
 ·rintro⟨h1,h2,h3⟩
  exact⟨⟨h1,h2⟩,fun i hi=>by by_cases h:i<Zh l 0 4;exact .inl h;exact .inr (h3 i hi (by omega))⟩
def Xg(l:List UInt8)(no:Int):Int:=if inE l 3 no=0 then(if Ue (inB l no) then 0 else 7) else inE l 3 no
def Zfr(l:List UInt8)(no:Int)(w:World)(e:Ending)(w':World):Prop :=
 (Xg l no≠0∧∃ b,e=.returned (.tuple #[.slice none 0 0,.iface 123 (.pointer (some ⟨b,0,none⟩))])∧Below w.heap.size w w'∧Ja w' [some no] (some (Xg l no)) (.iface 123 (.pointer (some ⟨b,0,none⟩)))) ∨
 (Xg l no=0∧∃ p c,e=.returned (.tuple #[.slice p (Zh (inB l no) 0 4) c,.nilIface])∧Below w.heap.size w w'∧w'.ownsRow w.heap.size 3 1 (.slice p (Zh (inB l no) 0 4) c) (Zh (inB l no) 0 4) ((Ea (inB l no) (Zh (inB l no) 0 4)).map nv))
theorem readB(B b:Nat)(p:Option Addr)(n c:Nat)(l:List UInt8)(no:Int)(w:World)(hI:ImgR B b p n c l w) :
 Calls Tryz.prog 144 #[.pointer (some ⟨b,0,none⟩),.int .i64 no,.int .i64 3,.func (.func 145) #[] #[]] w (Zfr l no w):=by
 refine zin 56 Tryz.func144 ?_
 refine xc 15 (args:=#[.pointer (some ⟨b,0,none⟩),.int .i64 no]) (Bv B b p n c l no _ (hI.below (Below.refl w.heap.size _))) ?_
 rintro e W1 hq1
 rcases hq1 with ⟨ho,vr,rfl,hb1⟩|⟨j,hk,hj,p2,c2,rfl,hb1,ho⟩
 ·refine xc 21 (args:=#[.int .i64 no,.iface 51 (.int .i64 3)]) (Yo no 3 _) ?_
  rintro _ W2 ⟨_,rfl,hb2,hv2⟩
  rw[if_neg (by decide),if_neg (by decide)] at hv2
  have hq2:=hv2
  obtain⟨bf2,vf2,rfl,_,_⟩:=hq2
  have hB:=bln hb1 hb2
  refine xe 6 (.tuple #[.slice none 0 0,.iface 123 (.pointer (some ⟨bf2,0,none⟩))]) ?_
  have he:Xg l no=3:=by unfold Xg;rw[Sb hI.len ho];rfl
  exact .inl ⟨by rw[he];decide,_,rfl,hB,by rw[he];exact hv2⟩
 have hs1:=Nat.le_refl w.heap.size
 have hj2:j<l.length/256:=by rw[hI.len];exact hj
 have hlj:=Vw hj2
 have he2:=Of (l:=l) (kind:=3) hI.len hk hj
 have ho'1:=Zd ho hs1
 refine xc 22 (args:=#[.slice p2 256 c2,.int .i64 3,.int .i64 no]) (Zdl 3 no p2 256 c2 (Vy l j) _ hlj (Qk (Zf ho'1) hlj)) ?_
 rintro e W3 hq3
 rcases hq3 with ⟨hs,rfl,hb3⟩|⟨hs,p3,c3,rfl,hb3,h3⟩
 ·refine xk 14 (show(((Ye 3 no (Vy l j)) != (0:Int)):Bool)=true from bne_iff_ne.2 hs) ?_
  refine xc 6 (args:=#[.int .i64 no,.iface 51 (.int .i64 (Ye 3 no (Vy l j)))]) (Yo no (Ye 3 no (Vy l j)) _) ?_
  rintro _ W4 ⟨_,rfl,hb4,hv4⟩
  rw[if_neg hs,if_neg hs] at hv4
  have hq4:=hv4
  obtain⟨bf4,vf4,rfl,_,_⟩:=hq4
  have hB:=bln (bln hb1 hb3) hb4
  refine xe 6 (.tuple #[.slice none 0 0,.iface 123 (.pointer (some ⟨bf4,0,none⟩))]) ?_
  have he:Xg l no=Ye 3 no (Vy l j):=by unfold Xg;rw[he2,if_neg hs]
  exact .inl ⟨by rw[he];exact hs,_,rfl,hB,by rw[he];exact hv4⟩
 have h3'1:=Zd h3 hb1.size
 have hin:((Vy l j).drop 8).take 244=inB l no:=(Iz hk).symm
 have hil:=Zeu hI.len hk hj
 rw[hin] at h3'1
 refine xc 21 (args:=#[.slice p3 244 c3]) (bits_ReadN p3 244 c3 (inB l no) _ hil (by decide) (Qk (Zf h3'1) hil)) ?_
 rintro e W5 hq5
 rcases hq5 with ⟨hb0,rfl,hb5⟩|⟨hb0,p4,c4,rfl,hb5,h4⟩
 ·refine xc 21 (args:=#[.int .i64 no,.iface 51 (.int .i64 7)]) (Yo no 7 _) ?_
  rintro _ W6 ⟨_,rfl,hb6,hv6⟩
  rw[if_neg (by decide),if_neg (by decide)] at hv6
  have hq6:=hv6
  obtain⟨bf6,vf6,rfl,_,_⟩:=hq6
  have hB:=bln (bln (bln hb1 hb3) hb5) hb6
  refine xe 6 (.tuple #[.slice none 0 0,.iface 123 (.pointer (some ⟨bf6,0,none⟩))]) ?_
  have he:Xg l no=7:=by unfold Xg;rw[he2,if_pos hs,if_neg (by rw[Js];exact hb0)]
  exact .inl ⟨by rw[he];decide,_,rfl,hB,by rw[he];exact hv6⟩
 have hs5:=(bln hb1 hb3).size
 have hB:=bln (bln hb1 hb3) hb5
 have h4'1:=Zd h4 hs5
 exact xe 25 (.tuple #[.slice p4 (Zh (inB l no) 0 4) c4,.nilIface]) (.inr ⟨by unfold Xg;rw[he2,if_pos hs,if_pos ((Js _).2 hb0)],_,_,rfl,hB,h4'1⟩)
theorem Zhi(B b:Nat)(p:Option Addr)(n c:Nat)(l:List UInt8)(no:Int)(w:World)(hI:ImgR B b p n c l w) :
 Calls Tryz.prog 94 #[.pointer (some ⟨b,0,none⟩),.int .i64 no] w (Zfr l no w):=by
 refine zin 11 Tryz.func94 ?_
 refine xc 10 (args:=#[.pointer (some ⟨b,0,none⟩),.int .i64 no,.int .i64 3,.func (.func 145) #[] #[]]) (readB B b p n c l no _ (hI.below (Below.refl w.heap.size _))) ?_
 rintro e W1 hq1
 rcases hq1 with ⟨he,bf,rfl,hb1,hv⟩|⟨he,p4,c4,rfl,hb1,h4⟩
 ·exact xe 7 (.tuple #[.slice none 0 0,.iface 123 (.pointer (some ⟨bf,0,none⟩))]) (.inl ⟨he,_,rfl,hb1,hv⟩)
 have hs1:=Nat.le_refl w.heap.size
 have h4'1:=Zd h4 hs1
 exact xe 7 (.tuple #[.slice p4 (Zh (inB l no) 0 4) c4,.nilIface]) (.inr ⟨he,_,_,rfl,hb1,h4'1⟩)
def Mp(l:List Int)(n:Nat):List Int:=(List.range 960).map (atI l n)
theorem Ee(l:List Int)(n:Nat):(Mp l n).length=960:=by simp[Mp]
theorem padI_get(l:List Int)(n:Nat){k:Nat}(h:k<960):(Mp l n).getD k 0=atI l n k:=by simp[Mp,List.getD,List.getElem?_range h]
theorem padN_zero(l:List Int)(n:Nat):(List.range n).map (atI l 0)=List.replicate n 0:=by
 apply List.ext_getElem
 ·simp
 ·intro i h1 h2;simp[atI]
theorem padI_zero(l:List Int):Mp l 0=List.replicate 960 0:=padN_zero l 960
theorem padN_set{l:List Int}{i n:Nat}(hi:i<n):(((List.range n).map (atI l i)).map (Value.int .i64)).set i (.int .i64 (l.getD i 0))=((List.range n).map (atI l (i+1))).map (Value.int .i64):=by
 rw[←List.map_set]
 congr 1
 apply List.ext_getElem
 ·simp
 ·intro k h1 h2
  rw[List.getElem_set]
  simp only[List.getElem_map,List.getElem_range,atI]
  by_cases e:i=k
  ·subst e;rw[if_pos rfl,if_pos (by omega)]
  ·rw[if_neg e]
   by_cases h3:k<i
   ·rw[if_pos h3,if_pos (by omega)]
   ·rw[if_neg h3,if_neg (by omega)]
theorem padI_set{l:List Int}{i:Nat}(hi:i<960):((Mp l i).map (Value.int .i64)).set i (.int .i64 (l.getD i 0))=(Mp l (i+1)).map (Value.int .i64):=padN_set hi
theorem zeros960:Hn (Value.int .i64 0).cells.toList 960=(List.replicate 960 (0:Int)).map (Value.int .i64):=by
 rw[show(Value.int .i64 0).cells.toList=[Value.int .i64 0] from rfl,Hn,List.map_replicate]
 generalize 960=n
 induction n with
 | zero=>rfl
 | succ n ih=>rw[List.replicate_succ,List.flatten_cons,ih,List.replicate_succ];rfl
def grpB(l:List Int)(k:Nat):List UInt8:=leB l.length 4++(List.range k).map (g4B l l.length)
theorem grpB_succ(l:List Int)(k:Nat):grpB l (k+1)=grpB l k++[g4B l l.length k]:=by simp[grpB,List.range_succ]
theorem g4_u8{x:Int}(h0:0≤x)(h1:x<256):IntKind.u8.wrap x=((UInt8.ofNat x.toNat).toNat:Int):=by
 rw[UInt8.toNat_ofNat',Nat.mod_eq_of_lt (by omega),IntWalk.u8_in x (by omega)];omega
theorem ref09_Put(a:Option Addr)(c:Nat)(l:List Int)(w:World)(hS:Hj l)(hl:l.length≤960)(h:Sl w (.slice a l.length c) l.length (l.map (Value.int .i64))) :
 Calls Tryz.prog 153 #[.slice a l.length c] w (Vn (fun w' r=>∃ p c,r=.tuple #[.slice p 244 c,.int .i64 0]∧w'.ownsRow w.heap.size 5 1 (.slice p 244 c) 244 ((Jb l).map bv)) w):=by
 refine zin 74 Tryz.func153 ?_
 refine xk 14 (show(decide ((↑l.length:Int)>(960:Int)):Bool)=false from decide_eq_false (by omega)) ?_
 refine xmk 4 fun _ _ _ _ zJ zQ zo zx zy zK=>Gb 960 (.int .i64 0) 1 8 ((List.replicate 960 (0:Int)).map (Value.int .i64)) zo zx zy Tryz.underlying30 (by kernel_rfl) rfl (by omega) (by omega) (zeros960) fun b1 W1 n1=>?_
 refine zK _ _ ?_
 have o1:=Zw (size:=1) (n:=960) n1.blk (n1.ge (Below.refl w.heap.size _)) (by rw[List.length_map,List.length_replicate]) (by unfold maxLen;omega)
 refine zl 10 74 (fun zm zkv V=>∃ (i:Nat),zkv=[(0,.slice a l.length c),(4,.slice (some ⟨b1,0,none⟩) 960 960),(5,.int .i64 (↑i:Int))]∧zm=l.length-((↑i:Int)).toNat∧Below w.heap.size w V∧V.ownsRow w.heap.size 3 1 (.slice (some ⟨b1,0,none⟩) 960 960) 960 ((Mp l i).map (Value.int .i64))∧i≤l.length) ⟨0,rfl,rfl,n1.below,(by rw[padI_zero];exact o1),Nat.zero_le _⟩ ?_
 rintro _ _ W2 ⟨i,rfl,rfl,hB_2,ho,hi⟩ J2 hJ2 r2
 refine xid 9 ((↑i:Int)<(↑l.length:Int)) (fun hc3=>?_) (fun hc3=>?_)
 ·refine xx 9 _ l.length i 1 (IntsN.elem h rfl (k:=i) (by omega)).1 ?_
  refine xl 0 ((IntsN.elem (h.below hB_2) rfl (k:=i) (by omega)).2) ?_
  refine xgk 2 [22,23] (show(decide ((l.getD i 0)<(0:Int)):Bool)=false from decide_eq_false (by have:=Vj hS i;omega)) ?_
  refine xx 2 _ l.length i 1 (IntsN.elem h rfl (k:=i) (by omega)).1 ?_
  refine xl 0 ((IntsN.elem (h.below hB_2) rfl (k:=i) (by omega)).2) ?_
  refine xk 4 (show(decide ((l.getD i 0)>(3:Int)):Bool)=false from decide_eq_false (by have:=Vj hS i;omega)) ?_
  refine xx 7 _ l.length i 1 (IntsN.elem h rfl (k:=i) (by omega)).1 ?_
  refine xl 0 ((IntsN.elem (h.below hB_2) rfl (k:=i) (by omega)).2) ?_
  refine xx 0 _ 960 i 1 (show(some (⟨b1,0,none⟩:Addr)).isSome=true from rfl) ?_
  refine xst 0 fun _ _ _ _ zJ zQ zo zx zy zK=>Wn (t:=3) (k:=i) (v:=.int .i64 (l.getD i 0)) zo zx zy (by kernel_rfl) rfl ho (by omega) fun W5 u5 o5=>?_
  rw[padI_set (l:=l) (i:=i) (by omega)] at o5
  refine zK _ _ ?_
  refine xwm 5 ((↑i:Int)+1) (↑(i+1):Int) ?_
  have hB'1:=u5.below hB_2 (Zb1 ho)
  exact ze 2 (hJ2 _ _ _ ⟨i+1,rfl,rfl,hB'1,o5,by omega⟩ (by omega))
 refine xc 9 (args:=#[.int .i64 (↑l.length:Int),.int .i64 4]) (Ca (↑l.length:Int) 4 4 _ (Int.natCast_nonneg _) (by omega) rfl (by decide)) ?_
 rintro _ W6 ⟨_,rfl,hb6,p4,c4,rfl,h4⟩
 have hin:i=l.length:=by omega
 have ho'1:=Zb ho hb6
 have h4'1:=Zd h4 hB_2.size
 have hB'2:=bln hB_2 hb6
 refine zl 10 74 (fun zm zkv V=>∃ (k m:Nat) (q:Option Addr) (d:Nat),zkv=[(4,.slice (some ⟨b1,0,none⟩) 960 960),(6,.slice q m d),(7,.int .i64 (↑(4*k):Int))]∧zm=960-((↑(4*k):Int)).toNat∧Below w.heap.size w V∧V.ownsRow w.heap.size 3 1 (.slice (some ⟨b1,0,none⟩) 960 960) 960 ((Mp l l.length).map (Value.int .i64))∧V.ownsRow w.heap.size 5 1 (.slice q m d) m ((grpB l k).map bv)∧k≤240∧m=4+k) ⟨0,4,_,_,rfl,rfl,hB'2,(by rw[←hin];exact ho'1),(by simpa [grpB] using h4'1),Nat.zero_le _,rfl⟩ ?_
 rintro _ _ W7 ⟨k,m,q,d,rfl,rfl,hB_7,hq,hr,hk,hm⟩ J7 hJ7 r7
 have hp:∀ j,j<960→(Mp l l.length).getD j 0=atI l l.length j:=fun j hj=>padI_get l _ hj
 have hb0:=Jv hS l.length (4*k)
 have hb1:=Jv hS l.length (4*k+1)
 have hb2:=Jv hS l.length (4*k+2)
 have hb3:=Jv hS l.length (4*k+3)
 have h9:k<240→(Mp l l.length).getD (4*k) 0=atI l l.length (4*k)∧(Mp l l.length).getD (4*k+1) 0=atI l l.length (4*k+1)∧(Mp l l.length).getD (4*k+2) 0=atI l l.length (4*k+2)∧(Mp l l.length).getD (4*k+3) 0=atI l l.length (4*k+3):=fun q=>⟨hp _ (by omega),hp _ (by omega),hp _ (by omega),hp _ (by omega)⟩
 refine xid 7 ((↑(4*k):Int)<(960:Int)) (fun hc8=>?_) (fun hc8=>?_)
 ·refine xd 4 (.t w.heap.size [5]) ?_
  refine xx (.e [0,1,2] 3) _ 960 (4*k) 1 (show(some (⟨b1,0,none⟩:Addr)).isSome=true from rfl) ?_
  have hq'1:=Zb hq (Za W7)
  refine xlt (.e [] 4) (.t w.heap.size [5]) (fun V hV=>(IntsN.elem (Zf (Zl hq'1 hV.2 (by decide))) (Ee l l.length) (k:=(4*k)) (by omega)).2) ?_
  refine xwm (.e [5,6] 7) ((↑(4*k):Int)+1) (↑((4*k)+1):Int) ?_
  refine xx (.e [] 8) _ 960 ((4*k)+1) 1 (show(some (⟨b1,0,none⟩:Addr)).isSome=true from rfl) ?_
  refine xlt (.e [] 9) (.t w.heap.size [5]) (fun V hV=>(IntsN.elem (Zf (Zl hq'1 hV.2 (by decide))) (Ee l l.length) (k:=((4*k)+1)) (by omega)).2) ?_
  refine xw (.e [] 10) (4*((Mp l l.length).getD ((4*k)+1) 0)) ?_
  refine xw (.e [] 11) (((Mp l l.length).getD (4*k) 0)+(4*((Mp l l.length).getD ((4*k)+1) 0))) ?_
  refine xwm (.e [12,13] 14) ((↑(4*k):Int)+2) (↑((4*k)+2):Int) ?_
  refine xx (.e [] 15) _ 960 ((4*k)+2) 1 (show(some (⟨b1,0,none⟩:Addr)).isSome=true from rfl) ?_
  refine xlt (.e [] 16) (.t w.heap.size [5]) (fun V hV=>(IntsN.elem (Zf (Zl hq'1 hV.2 (by decide))) (Ee l l.length) (k:=((4*k)+2)) (by omega)).2) ?_
  refine xw (.e [] 17) (16*((Mp l l.length).getD ((4*k)+2) 0)) ?_
  refine xw (.e [] 18) (((Mp l l.length).getD (4*k) 0)+(4*((Mp l l.length).getD ((4*k)+1) 0))+(16*((Mp l l.length).getD ((4*k)+2) 0))) ?_
  refine xwm (.e [19,20] 21) ((↑(4*k):Int)+3) (↑((4*k)+3):Int) ?_
  refine xx (.e [] 22) _ 960 ((4*k)+3) 1 (show(some (⟨b1,0,none⟩:Addr)).isSome=true from rfl) ?_
  refine xlt (.e [] 23) (.t w.heap.size [5]) (fun V hV=>(IntsN.elem (Zf (Zl hq'1 hV.2 (by decide))) (Ee l l.length) (k:=((4*k)+3)) (by omega)).2) ?_
  refine xw (.e [] 24) (64*((Mp l l.length).getD ((4*k)+3) 0)) ?_
  refine xw (.e [] 25) (((Mp l l.length).getD (4*k) 0)+(4*((Mp l l.length).getD ((4*k)+1) 0))+(16*((Mp l l.length).getD ((4*k)+2) 0))+(64*((Mp l l.length).getD ((4*k)+3) 0))) ?_
  refine xq (.e [] 26) (congrArg (Value.int .u8) (show(IntKind.u8.wrap (((Mp l l.length).getD (4*k) 0)+(4*((Mp l l.length).getD ((4*k)+1) 0))+(16*((Mp l l.length).getD ((4*k)+2) 0))+(64*((Mp l l.length).getD ((4*k)+3) 0))):Int)=(↑(g4B l l.length k).toNat:Int) from by obtain⟨q0,q1,q2,q3⟩:=h9 (by omega);rw[q0,q1,q2,q3];exact g4_u8 (by omega) (by omega))) ?_
  refine xbs (.o [] 27) 1 [.int .u8 (↑(g4B l l.length k).toNat:Int)] 5 fun b9 W9 n9=>?_
  have hB'3:=bln hB_7 (Za W7)
  have g9:=n9.ge hB'3
  have hr'1:=Zb hr (Za W7)
  have r9_hr:=Zu hr'1 n9
  have hr'2:=Zb hr'1 n9.below
  have hB'4:=bln hB'3 n9.below
  refine ybi (.o [] 28) (.t w.heap.size [5]) fun _ _ _ _ zJ zQ zo zx zy zK=>Zp (m:=1) (news:=[.int .u8 (↑(g4B l l.length k).toNat:Int)]) (.int .u8 0) 1 1 (m+1) (((grpB l (k+1)).map bv)) zo Tryz.underlying22 (by kernel_rfl) rfl (by decide) zx hr'2 zy (n9.blk.sl 1 1 (by decide) (by decide)) rfl (by simp[Value.oneCell']) (by unfold maxLen;omega) (by omega) hB'4.size (by rfl) (by rw[grpB_succ,List.map_append];rfl) fun px10 cx10 W10 o10 hg10 hb10=>?_
  refine zK _ _ (Zr hb10 hg10 hr'2 (by decide)) ?_
  refine xwm (.r [29] 5) ((↑(4*k):Int)+4) (↑((4*k)+4):Int) ?_
  refine xv1 2 7 (show(.int .i64 (↑((4*k)+4):Int):Value)=.int .i64 (↑(4*(k+1)):Int) from by congr 1) ?_
  have hB'5:=hB'4.trans hb10
  have hq'2:=Zg (Zb hq'1 n9.below) hg10 hr'2 (by decide)
  exact ze 0 (hJ7 _ _ _ ⟨k+1,m+1,_,_,rfl,rfl,hB'5,hq'2,o10,by omega,by omega⟩ (by omega))
 refine xe 13 (.tuple #[.slice q m d,.int .i64 0]) ?_
 obtain rfl:k=240:=by omega
 subst hm
 exact⟨_,rfl,hB_7,_,_,rfl,hr⟩
def Pz(l:List UInt8)(n:Nat):List Int:=(Ea l n).map fun x:Nat=>(x:Int)
theorem Er(l:List UInt8)(n:Nat):(Pz l n).length=n:=by simp[Pz,Ea]
theorem bitI_get(l:List UInt8){n i:Nat}(h:i<n):(Pz l n).getD i 0=(Sv l i:Int):=by simp[Pz,Ea,List.getD,List.getElem?_range h]
theorem bitN_lt(l:List UInt8)(i:Nat):Sv l i<4:=Nat.mod_lt _ (by decide)
theorem Bp(l:List UInt8)(n:Nat):Hj (Pz l n):=by
 intro x hx
 obtain⟨y,hy,rfl⟩:=List.mem_map.1 hx
 obtain⟨i,_,rfl⟩:=List.mem_map.1 hy
 have:=bitN_lt l i
 omega
theorem bitN_at(l:List UInt8)(j r:Nat)(hr:r<4):Sv l (4*j+r)=(l.getD (4+j) 0).toNat/2 ^ (r*2)%4:=by
 unfold Sv
 rw[show(4*j+r)/4=j by omega,show(4*j+r)%4=r by omega]
theorem bitsT_get(L:List Int)(n:Nat){j:Nat}(hj:j<240):(Ww L n).getD (4+j) 0=g4B L n j:=by
 unfold Ww
 simp only[List.getD]
 rw[List.getElem?_append_right (by rw[Zo];omega),Zo,Nat.add_sub_cancel_left]
 simp[List.getElem?_range hj]
theorem atI_bit(l:List UInt8)(n i:Nat):atI (Pz l n) n i=if i<n then(Sv l i:Int) else 0:=by
 unfold atI
 by_cases h:i<n
 ·rw[if_pos h,if_pos h,bitI_get l h]
 ·rw[if_neg h,if_neg h]
theorem g4B_nat{L:List Int}(h:Hj L)(n j:Nat):((g4B L n j).toNat:Int)=g4 L n j:=by
 have b0:=Jv h n (4*j)
 have b1:=Jv h n (4*j+1)
 have b2:=Jv h n (4*j+2)
 have b3:=Jv h n (4*j+3)
 unfold g4B
 rw[UInt8.toNat_ofNat',Nat.mod_eq_of_lt (by unfold g4;omega)]
 unfold g4;omega
theorem Zco{l:List UInt8}(hl:l.length=244)(hn:Zh l 0 4≤960):(Jb (Pz l (Zh l 0 4))==l)=Ue l:=by
 generalize hnn:Zh l 0 4=n at *
 have hS:=Bp l n
 have hLl:=Er l n
 have hbl:(Jb (Pz l n)).length=244:=Kk _ _
 have hx:∀ j,(l.getD (4+j) 0).toNat<256:=fun j=>(l.getD (4+j) 0).toNat_lt
 have hg:∀ j,j<240→(Jb (Pz l n)).getD (4+j) 0=g4B (Pz l n) n j:=fun j hj=>by unfold Jb;rw[hLl,bitsT_get _ _ hj]
 have hsum:∀ j,g4 (Pz l n) n j=atI (Pz l n) n (4*j)+4*atI (Pz l n) n (4*j+1)+16*atI (Pz l n) n (4*j+2)+64*atI (Pz l n) n (4*j+3):=fun _=>rfl
 have hdig:∀ j r,r<4→Sv l (4*j+r)=(l.getD (4+j) 0).toNat/2 ^ (r*2)%4:=fun j r hr=>bitN_at l j r hr
 rw[Bool.eq_iff_iff,beq_iff_eq,Js]
 constructor
 ·intro h
  refine⟨hl,by omega,fun i hi hc=>?_⟩
  rw[hnn] at hc
  obtain⟨j,r,rfl,hr⟩:∃ j r,i=4*j+r∧r<4:=⟨i/4,i%4,by omega,by omega⟩
  have e1:(g4B (Pz l n) n j).toNat=(l.getD (4+j) 0).toNat:=by rw[←hg j (by omega),h]
  have e2:=g4B_nat hS n j
  rw[e1,hsum] at e2
  rw[hdig j r hr]
  have a0:=Jv hS n (4*j)
  have a1:=Jv hS n (4*j+1)
  have a2:=Jv hS n (4*j+2)
  have a3:=Jv hS n (4*j+3)
  have c:∀ q,n≤4*j+q→atI (Pz l n) n (4*j+q)=0:=fun q hq=>by rw[atI_bit,if_neg (by omega)]
  obtain rfl|rfl|rfl|rfl:r=0∨r=1∨r=2∨r=3:=by omega
  ·have z0:=c 0 hc
   rw[Nat.add_zero] at z0
   simp only[Nat.zero_mul,Nat.reducePow,Nat.div_one];omega
  ·have z0:=c 1 hc
   simp only[Nat.one_mul,Nat.reducePow];omega
  ·have z0:=c 2 hc
   simp only[Nat.reduceMul,Nat.reducePow];omega
  ·have z0:=c 3 hc
   simp only[Nat.reduceMul,Nat.reducePow];omega
 ·rintro⟨_,_,h0⟩
  rw[hnn] at h0
  have hat:∀ i,i<960→atI (Pz l n) n i=(Sv l i:Int):=fun i hi=>by
   rw[atI_bit]
   by_cases q:i<n
   ·rw[if_pos q]
   ·rw[if_neg q,h0 i hi (by omega)];rfl
  apply Ll (by rw[hbl,hl])
  intro i hi
  rw[hbl] at hi
  by_cases h4:i<4
  ·have e:=leB_raw (l:=l) (k:=0) (w:=4) (by omega)
   rw[hnn,List.drop_zero] at e
   unfold Jb Ww
   rw[hLl,e]
   simp only[List.getD]
   rw[List.getElem?_append_left (by simp;omega),List.getElem?_take,if_pos h4]
  ·obtain⟨j,rfl⟩:∃ j,i=4+j:=⟨i-4,by omega⟩
   rw[hg j (by omega)]
   apply UInt8.toNat_inj.1
   have e2:=g4B_nat hS n j
   rw[hsum,hat _ (by omega),hat _ (by omega),hat _ (by omega),hat _ (by omega)] at e2
   have d0:=hdig j 0 (by decide)
   have d1:=hdig j 1 (by decide)
   have d2:=hdig j 2 (by decide)
   have d3:=hdig j 3 (by decide)
   simp only[Nat.zero_mul,Nat.one_mul,Nat.reduceMul,Nat.reducePow,Nat.add_zero,Nat.div_one] at d0 d1 d2 d3
   have:=hx j
   omega
theorem bitI_snoc(l:List UInt8)(n:Nat):Pz l (n+1)=Pz l n++[(Sv l n:Int)]:=by unfold Pz;rw[Aa,List.map_append];rfl
theorem bitN4(l:List UInt8)(i:Nat):(l.getD (4+i/4) 0).toNat/4 ^ (i%4)%4=Sv l i:=by
 unfold Sv
 rw[Nat.mul_comm (i%4) 2,Nat.pow_mul]
def RBitsP(l:List UInt8)(w:World)(e:Ending)(w':World):Prop :=
 (Ue l=false∧e=.returned (.tuple #[.slice none 0 0,.int .i64 7])∧Below w.heap.size w w') ∨
 (Ue l=true∧∃ p c,e=.returned (.tuple #[.slice p (Zh l 0 4) c,.int .i64 0])∧Below w.heap.size w w'∧w'.ownsRow w.heap.size 3 1 (.slice p (Zh l 0 4) c) (Zh l 0 4) ((Pz l (Zh l 0 4)).map (Value.int .i64)))
theorem ref09_PutN(a:Option Addr)(n c:Nat)(l:List Int)(w:World)(hn:l.length=n)(hS:Hj l)(hl:n≤960)(h:Sl w (.slice a n c) n (l.map (Value.int .i64))):Calls Tryz.prog 153 #[.slice a n c] w (Vn (fun w' r=>∃ p c,r=.tuple #[.slice p 244 c,.int .i64 0]∧w'.ownsRow w.heap.size 5 1 (.slice p 244 c) 244 ((Jb l).map bv)) w):=by
 subst hn;exact ref09_Put a c l w hS hl h
theorem ref09_Read(a:Option Addr)(c:Nat)(l:List UInt8)(w:World)(hl:l.length=244)(h:Bys w (.slice a 244 c) l) :
 Calls Tryz.prog 104 #[.slice a 244 c] w (RBitsP l w):=by
 have hcap:=Bys.cap h hl
 refine zin 58 Tryz.func104 ?_
 refine xr 20 (args:=#[.slice a 244 c,.int .i64 0,.int .i64 4]) (Lx a 244 c 0 4 0 4 l _ hl rfl rfl (by decide) (by decide) (by decide) (h.below (Below.refl w.heap.size _))) fun W1 hb1=>?_
 refine xid 14 ((↑(Zh l 0 4):Int)>(960:Int)) (fun hc2=>?_) (fun hc2=>?_)
 ·exact xe 8 (.tuple #[.slice none 0 0,.int .i64 7]) (.inl ⟨by rw[←Bool.not_eq_true,Js];intro q;have:=q.2.1;omega,rfl,hb1⟩)
 refine zl 14 58 (fun zm zkv V=>∃ (i:Nat) (p:Option Addr) (c2:Nat),zkv=[(0,.slice a 244 c),(2,.slice none 0 0),(3,.int .i64 0),(4,.int .i64 (↑(Zh l 0 4):Int)),(6,.slice p i c2),(7,.int .i64 (↑i:Int))]∧zm=Zh l 0 4-((↑i:Int)).toNat∧Below w.heap.size w V∧V.ownsRow w.heap.size 3 1 (.slice p i c2) i ((Pz l i).map (Value.int .i64))∧i≤Zh l 0 4) ⟨0,_,_,rfl,rfl,hb1,World.ownsRow_nil _ _ _ _,Nat.zero_le _⟩ ?_
 rintro _ _ W3 ⟨i,p,c2,rfl,rfl,hB_3,ho,hi⟩ J3 hJ3 r3
 refine xid 8 ((↑i:Int)<(↑(Zh l 0 4):Int)) (fun hc4=>?_) (fun hc4=>?_)
 ·refine xq 8 (congrArg (Value.int .i64) (show(IntKind.i64.wrap (Int.tdiv (↑i:Int) 4):Int)=(↑(i/4):Int) from Gw i 4 (by omega) (by decide))) ?_
  refine xwm 0 (4+(↑(i/4):Int)) (↑(4+(i/4)):Int) ?_
  refine xx 0 _ 244 (4+(i/4)) 1 (BysM.elem h hl (k:=(4+(i/4))) (by omega)).1 ?_
  refine xl 0 ((BysM.elem (h.below hB_3) hl (k:=(4+(i/4))) (by omega)).2) ?_
  refine xq 0 (congrArg (Value.int .i64) (show(IntKind.i64.wrap (↑(l.getD (4+(i/4)) 0).toNat:Int):Int)=(↑(l.getD (4+(i/4)) 0).toNat:Int) from Jr (by have:=(l.getD (4+i/4) 0).toNat_lt;omega))) ?_
  refine xv1 10 8 (show(.int .i64 (↑(l.getD (4+(i/4)) 0).toNat:Int):Value)=.int .i64 (↑((l.getD (4+(i/4)) 0).toNat/4 ^ 0:Nat):Int) from by rw[Nat.pow_zero,Nat.div_one]) ?_
  refine zl 0 58 (fun zm zkv V=>∃ (k:Nat),zkv=[(0,.slice a 244 c),(2,.slice none 0 0),(3,.int .i64 0),(4,.int .i64 (↑(Zh l 0 4):Int)),(6,.slice p i c2),(7,.int .i64 (↑i:Int)),(8,.int .i64 (↑((l.getD (4+(i/4)) 0).toNat/4 ^ k:Nat):Int)),(9,.int .i64 (↑k:Int))]∧zm=i%4-((↑k:Int)).toNat∧Below w.heap.size w V∧V.ownsRow w.heap.size 3 1 (.slice p i c2) i ((Pz l i).map (Value.int .i64))∧k≤i%4) ⟨0,rfl,rfl,hB_3,ho,Nat.zero_le _⟩ ?_
  rintro _ _ W5 ⟨k,rfl,rfl,hB_5,ho_5,hk⟩ J5 hJ5 r5
  refine xq 5 (congrArg (Value.int .i64) (show(Int.tmod (↑i:Int) 4:Int)=(↑(i%4):Int) from Uu i 4)) ?_
  refine xid 3 ((↑k:Int)<(↑(i%4):Int)) (fun hc6=>?_) (fun hc6=>?_)
  ·refine xq 6 (congrArg (Value.int .i64) (show(IntKind.i64.wrap (Int.tdiv (↑((l.getD (4+(i/4)) 0).toNat/4 ^ k:Nat):Int) 4):Int)=(↑(((l.getD (4+(i/4)) 0).toNat/4 ^ k:Nat)/4):Int) from Gw ((l.getD (4+(i/4)) 0).toNat/4 ^ k:Nat) 4 (Nat.lt_of_le_of_lt (Nat.div_le_self _ _) (Nat.lt_trans (l.getD (4+i/4) 0).toNat_lt (by decide))) (by decide))) ?_
   refine xwm 6 ((↑k:Int)+1) (↑(k+1):Int) ?_
   refine xv1 2 8 (show(.int .i64 (↑(((l.getD (4+(i/4)) 0).toNat/4 ^ k:Nat)/4):Int):Value)=.int .i64 (↑((l.getD (4+(i/4)) 0).toNat/4 ^ (k+1):Nat):Int) from by rw[Nat.pow_succ,←Nat.div_div_eq_div_mul]) ?_
   exact ze 0 (hJ5 _ _ _ ⟨k+1,rfl,rfl,hB_5,ho_5,by omega⟩ (by omega))
  refine xq 8 (congrArg (Value.int .i64) (show(Int.tmod (↑((l.getD (4+(i/4)) 0).toNat/4 ^ k:Nat):Int) 4:Int)=(↑(((l.getD (4+(i/4)) 0).toNat/4 ^ k:Nat)%4):Int) from Uu ((l.getD (4+(i/4)) 0).toNat/4 ^ k:Nat) 4)) ?_
  refine xbs 0 1 [.int .i64 (↑(((l.getD (4+(i/4)) 0).toNat/4 ^ k:Nat)%4):Int)] 3 fun b7 W7 n7=>?_
  have g7:=n7.ge hB_5
  have r7_ho:=Zu ho_5 n7
  have ho'1:=Zb ho_5 n7.below
  have hB'1:=bln hB_5 n7.below
  refine xbi 0 fun _ _ _ _ zJ zQ zo zx zy zK=>Zp (m:=1) (news:=[.int .i64 (↑(((l.getD (4+(i/4)) 0).toNat/4 ^ k:Nat)%4):Int)]) (.int .i64 0) 1 8 (i+1) (((Pz l (i+1)).map (Value.int .i64))) zo Tryz.underlying30 (by kernel_rfl) rfl (by decide) zx ho'1 zy (n7.blk.sl 1 1 (by decide) (by decide)) rfl (by simp[Value.oneCell']) (by unfold maxLen;omega) (by omega) hB'1.size (by rfl) (by rw[bitI_snoc,List.map_append,show k=i%4 by omega,bitN4];rfl) fun px8 cx8 W8 o8 hg8 hb8=>?_
  refine zK _ _ ?_
  refine xwm 6 ((↑i:Int)+1) (↑(i+1):Int) ?_
  have hB'2:=hB'1.trans hb8
  exact ze 2 (hJ3 _ _ _ ⟨i+1,_,_,rfl,rfl,hB'2,o8,by omega⟩ (by omega))
 refine xc 8 (args:=#[.slice p i c2]) (ref09_PutN p i c2 (Pz l i) _ (Er _ _) (Bp _ _) (by omega) (Zf ho)) ?_
 rintro _ W9 ⟨_,rfl,hb9,p4,c4,rfl,h4⟩
 have h4'1:=Zd h4 hB_3.size
 refine xcv0 11 (fun _ _ _ zo zx=>Qi zo zx (Qk (Zf h4'1) (Kk _ _)) (Kk _ _) Tryz.underlying22 Tryz.underlying5 Tryz.underlying9) ?_
 have hB'3:=bln hB_3 hb9
 refine xcv0 1 (fun _ _ _ zo zx=>Qi zo zx (h.below hB'3) hl Tryz.underlying22 Tryz.underlying5 Tryz.underlying9) ?_
 refine xi 3 (!((⟨(Jb (Pz l i)).toArray⟩:ByteArray).toList==(⟨l.toArray⟩:ByteArray).toList)) (fun hc10=>?_) (fun hc10=>?_)
 ·have hok:Ue l=false:=by rw[←Zco hl (by omega),←show i=Zh l 0 4 by omega,←Ce];exact not_t hc10
  exact xe 8 (.tuple #[.slice none 0 0,.int .i64 7]) (.inl ⟨hok,rfl,hB'3⟩)
 have hok:Ue l=true:=by rw[←Zco hl (by omega),←show i=Zh l 0 4 by omega,←Ce];exact not_f hc10
 have ho'2:=Zb ho hb9
 refine xe 10 (.tuple #[.slice p i c2,.int .i64 0]) ?_
 obtain rfl:i=Zh l 0 4:=by omega
 exact .inr ⟨hok,_,_,rfl,hB'3,ho'2⟩
theorem Zcu(s:List UInt8):Lb Xo s=[Zh s 0 8,Zh s 8 4,Zh s 12 4]:=rfl
theorem Mc(s:List UInt8):Hm Xo s=Cq (Zh s 0 8:Int) (Zh s 8 4:Int) (Zh s 12 4:Int):=by
 unfold Hm Nj Cq
 rw[Zcu]
 simp[Xo,List.range,List.range.loop,inP,List.getD,Yl,Bool.and_assoc]
theorem Ef:(Ux Xo Xo.length).sum=16:=rfl
def UnpRP(s:List UInt8)(w:World)(e:Ending)(w':World):Prop :=
 (¬ Zh s 0 8<9223372036854775808∧e=.returned (.tuple #[.slice none 0 0,.int .i64 2])∧Below w.heap.size w w') ∨
 (Zh s 0 8<9223372036854775808∧∃ p c,e=.returned (.tuple #[.slice p 3 c,.int .i64 0])∧Below w.heap.size w w'∧w'.ownsRow w.heap.size 3 1 (.slice p 3 c) 3 (([Zh s 0 8,Zh s 8 4,Zh s 12 4]:List Nat).map nv))
theorem ref_Unp844(a:Option Addr)(n c:Nat)(s:List UInt8)(g:Nat)(w:World)(hn:s.length=n)(h16:n=16)(h:Bys w (.slice a n c) s)(kg:Blk w g [.int .i64 8,.int .i64 4,.int .i64 4] 3) :
 Calls Tryz.prog 64 #[.slice a n c,.slice (some ⟨g,0,none⟩) 3 3] w (UnpRP s w):=by
 subst hn
 have hk:∀ i,i<([8,4,4]:List Nat).length→([8,4,4]:List Nat).getD i 0=1∨([8,4,4]:List Nat).getD i 0=2∨([8,4,4]:List Nat).getD i 0=4∨([8,4,4]:List Nat).getD i 0=8:=by decide
 have hws:Sl w (.slice (some ⟨g,0,none⟩) 3 3) 3 (([8,4,4]:List Nat).map nv):=kg.sl 3 3 (by decide) (by decide)
 have h1:=Qj s 8 4 (by decide)
 have h2:=Qj s 12 4 (by decide)
 by_cases hq:Zh s 0 8<9223372036854775808
 ·refine(Lz a c s (some ⟨g,0,none⟩) 3 [8,4,4] w hk (by rw[h16];decide) (by omega) (by decide) h hws ?_).mono ?_
  ·intro i hi
   have hi':i<3:=hi
   obtain rfl|rfl|rfl:i=0∨i=1∨i=2:=by omega
   ·exact hq
   ·show Zh s 8 4<_;omega
   ·show Zh s 12 4<_;omega
  ·rintro e W ⟨_,rfl,hb,p,c2,rfl,ho⟩
   exact .inr ⟨hq,p,c2,rfl,hb,ho⟩
 ·refine(Sw a c s (some ⟨g,0,none⟩) 3 [8,4,4] w hk (by rw[h16];decide) (by omega) (by decide) h hws ?_).mono ?_
  ·intro q;exact hq (q 0 (by decide))
  ·rintro e W ⟨rfl,hb⟩
   exact .inl ⟨hq,rfl,hb⟩
theorem Tl(s:List UInt8)(w:World)(hs:s.length≤1000) :
 Calls Tryz.prog 37 #[.string ⟨s.toArray⟩] w (Ret (.tuple #[.agg #[.int .i64 (↑((Xy Xo s).getD 0 0):Int),.int .i64 (↑((Xy Xo s).getD 1 0):Int),.int .i64 (↑((Xy Xo s).getD 2 0):Int)],.int .i64 (Xq Xo s)]) w):=by
 refine zin 36 Tryz.func37 ?_
 refine xa 2 [.int .i64 0,.int .i64 0,.int .i64 0] 79 fun b1 W1 n1=>?_
 refine xin 11 (↑s.length:Int) (16:Int) (fun hc2=>?_) (fun hc2=>?_)
 ·refine xsv 3 n1.blk [.int .i64 0,.int .i64 0,.int .i64 0] fun W3 u3 k3=>?_
  have g1:=n1.ge (Below.refl w.heap.size _)
  have hB:=u3.below n1.below g1
  refine xec 5 k3 (.tuple #[.agg #[.int .i64 0,.int .i64 0,.int .i64 0],.int .i64 7]) ?_
  have he:Xq Xo s=7:=if_neg (by rw[Ef];omega)
  rw[Xy,he,if_neg (by decide)];exact⟨rfl,hB⟩
 refine xcf 5 fun _ _ _ zJ zQ zo zx zK=>Jq s zo zx Tryz.underlying9 Tryz.underlying22 Tryz.underlying5 (by omega) ?_
 intro bz cz W4 hb4 hbz
 refine zK _ _ ?_
 refine xbs 0 3 [.int .i64 8,.int .i64 4,.int .i64 4] 3 fun b5 W5 n5=>?_
 have hbz'1:=hbz.below n5.below
 refine xc 0 (args:=#[.slice (some ⟨bz,0,none⟩) s.length cz,.slice (some ⟨b5,0,none⟩) 3 3]) (ref_Unp844 (some ⟨bz,0,none⟩) s.length cz s b5 _ rfl (by omega) hbz'1 n5.blk) ?_
 rintro e W6 hq6
 rcases hq6 with ⟨hq,rfl,hb6⟩|⟨hq,p5,c5,rfl,hb6,h5⟩
 ·have k1:=((n1.blk.below hb4).below n5.below).below hb6
  refine xsv 18 k1 [.int .i64 0,.int .i64 0,.int .i64 0] fun W7 u7 k7=>?_
  have g1:=n1.ge (Below.refl w.heap.size _)
  have hB:=u7.below (bln (bln (bln n1.below hb4) n5.below) hb6) g1
  refine xec 5 k7 (.tuple #[.agg #[.int .i64 0,.int .i64 0,.int .i64 0],.int .i64 2]) ?_
  have he:Xq Xo s=2:=by unfold Xq;rw[Ef,if_pos (by omega),Mc,show Cq (Zh s 0 8:Int) (Zh s 8 4:Int) (Zh s 12 4:Int)=false from by unfold Cq;rw[decide_eq_false (by omega)];rfl,if_neg (by decide)]
  rw[Xy,he,if_neg (by decide)];exact⟨rfl,hB⟩
 have hs6:=(bln (bln n1.below hb4) n5.below).size
 refine xd 18 (.t w.heap.size [79]) ?_
 have h5'1:=Zb (Zd h5 hs6) (Za W6)
 refine xx (.e [0] 1) _ 3 0 1 (Zt (l:=[Zh s 0 8,Zh s 8 4,Zh s 12 4]) (Zf h5'1) rfl (k:=0) (by decide)).1 ?_
 refine xlt (.e [] 2) (.t w.heap.size [79]) (fun V hV=>(Zt (l:=[Zh s 0 8,Zh s 8 4,Zh s 12 4]) (Zf (Zl h5'1 hV.2 (by decide))) rfl (k:=0) (by decide)).2) ?_
 refine xx (.e [3] 4) _ 3 1 1 (Zt (l:=[Zh s 0 8,Zh s 8 4,Zh s 12 4]) (Zf h5'1) rfl (k:=1) (by decide)).1 ?_
 refine xlt (.e [] 5) (.t w.heap.size [79]) (fun V hV=>(Zt (l:=[Zh s 0 8,Zh s 8 4,Zh s 12 4]) (Zf (Zl h5'1 hV.2 (by decide))) rfl (k:=1) (by decide)).2) ?_
 refine xx (.e [6] 7) _ 3 2 1 (Zt (l:=[Zh s 0 8,Zh s 8 4,Zh s 12 4]) (Zf h5'1) rfl (k:=2) (by decide)).1 ?_
 refine xlt (.e [] 8) (.t w.heap.size [79]) (fun V hV=>(Zt (l:=[Zh s 0 8,Zh s 8 4,Zh s 12 4]) (Zf (Zl h5'1 hV.2 (by decide))) rfl (k:=2) (by decide)).2) ?_
 refine xa (.o [9] 10) [.int .i64 0,.int .i64 0,.int .i64 0] 79 fun b8 W8 n8=>?_
 have k1:=(((n1.blk.below hb4).below n5.below).below hb6).below (Za W6)
 have d8_b1:=n8.ne k1
 have g8:=n8.ge (bln (bln (bln (bln n1.below hb4) n5.below) hb6) (Za W6))
 refine ysv (.o [] 11) n8.blk [.int .i64 (↑(Zh s 0 8):Int),.int .i64 (↑(Zh s 8 4):Int),.int .i64 (↑(Zh s 12 4):Int)] (.t w.heap.size [79]) fun W9 u9 k9=>⟨(Zi u9 n8.blk g8 (by decide)),?_⟩
 refine xlv 5 k9.rp ?_
 refine xc 0 (args:=#[.agg #[.int .i64 (↑(Zh s 0 8):Int),.int .i64 (↑(Zh s 8 4):Int),.int .i64 (↑(Zh s 12 4):Int)]]) (Zhe (↑(Zh s 0 8):Int) (↑(Zh s 8 4):Int) (↑(Zh s 12 4):Int) _) ?_
 rintro e W10 hq10
 rcases hq10 with ⟨hsb,rfl,hb10⟩|⟨hsb,rfl,hb10⟩
 ·have k1'1:=(u9.blk (k1.below n8.below) (Ne.symm (Ne.symm d8_b1))).below hb10
  refine xsv 7 k1'1 [.int .i64 0,.int .i64 0,.int .i64 0] fun W11 u11 k11=>?_
  have g1:=n1.ge (Below.refl w.heap.size _)
  have hB:=u11.below (bln (u9.below (bln (bln (bln (bln (bln n1.below hb4) n5.below) hb6) (Za W6)) n8.below) g8) hb10) g1
  refine xec 5 k11 (.tuple #[.agg #[.int .i64 0,.int .i64 0,.int .i64 0],.int .i64 2]) ?_
  have he:Xq Xo s=2:=by unfold Xq;rw[Ef,if_pos (by omega),Mc,hsb,if_neg (by decide)]
  rw[Xy,he,if_neg (by decide)];exact⟨rfl,hB⟩
 refine xk 3 (show(((⟨(Zfw [(↑(Zh s 0 8):Int),(↑(Zh s 8 4):Int),(↑(Zh s 12 4):Int)] [8,4,4] 3).toArray⟩:ByteArray).toList==(⟨#[]⟩:ByteArray).toList):Bool)=false from txt3_ne _ _ _) ?_
 have k9'1:=k9.below hb10
 refine xlv 4 k9'1.rp ?_
 have k1'2:=(u9.blk (k1.below n8.below) (Ne.symm (Ne.symm d8_b1))).below hb10
 refine xsv 0 k1'2 [.int .i64 (↑(Zh s 0 8):Int),.int .i64 (↑(Zh s 8 4):Int),.int .i64 (↑(Zh s 12 4):Int)] fun W12 u12 k12=>?_
 have g1:=n1.ge (Below.refl w.heap.size _)
 have hB:=u12.below (bln (u9.below (bln (bln (bln (bln (bln n1.below hb4) n5.below) hb6) (Za W6)) n8.below) g8) hb10) g1
 refine xec 4 k12 (.tuple #[.agg #[.int .i64 (↑(Zh s 0 8):Int),.int .i64 (↑(Zh s 8 4):Int),.int .i64 (↑(Zh s 12 4):Int)],.int .i64 0]) ?_
 have he:Xq Xo s=0:=by unfold Xq;rw[Ef,if_pos (by omega),Mc,hsb,if_pos rfl]
 rw[Xy,he,if_pos rfl,Zcu];exact⟨rfl,hB⟩
theorem Rb(l:List UInt8)(i:Nat)(w:World)(hs:(Vt l i).length≤1000):Calls Tryz.prog 37 #[.string ⟨(Vt l i).toArray⟩] w (fun e w' =>
 (Xq Xo (Vt l i)=0∧e=.returned (.tuple #[.agg #[.int .i64 (Qu l i 0:Int),.int .i64 (Qu l i 1:Int),.int .i64 (Qu l i 2:Int)],.int .i64 0])∧Below w.heap.size w w') ∨
 (Xq Xo (Vt l i)≠0∧e=.returned (.tuple #[.agg #[.int .i64 (Qu l i 0:Int),.int .i64 (Qu l i 1:Int),.int .i64 (Qu l i 2:Int)],.int .i64 (Xq Xo (Vt l i))])∧Below w.heap.size w w')):=by
 refine(Tl (Vt l i) w hs).mono ?_
 rintro e W ⟨rfl,hb⟩
 by_cases h:Xq Xo (Vt l i)=0
 ·exact .inl ⟨h,by rw[h];rfl,hb⟩
 ·exact .inr ⟨h,rfl,hb⟩
theorem bysZ{w:World}{a:Option Addr}{c r:Nat}{l:List UInt8}(h:Bys w (.slice a 244 c) l)(hl:l.length=244)(hk:4+16*r≤244):Bys w (.slice (Qm a (4+16*r) c 1) (244-(4+16*r)) (c-(4+16*r))) (l.drop (4+r*16)):=by
 rw[Nat.mul_comm r 16];exact bysK h hl hk
theorem slot_cut{w:World}{a:Option Addr}{c i:Nat}{l:List UInt8}(h:Bys w (.slice a 244 c) l)(hl:l.length=244)(hi:i<15):Bys w (.slice (Qm a (4+16*i) c 1) (20+16*i-(4+16*i)) (c-(4+16*i))) (Vt l i):=by
 have:=Bys.cut h hl (4+16*i) (20+16*i) (by omega) (by omega)
 unfold Vt
 have e:20+16*i-(4+16*i)=16:=by omega
 rw[Nat.mul_comm i 16]
 rw[e] at this ⊢
 exact this
theorem Zey{i:Nat}{l:List UInt8}(hl:l.length=244)(hi:i<15):(Vt l i).length=20+16*i-(4+16*i):=by rw[Mr hl hi];omega
theorem Zhd(a:Option Addr)(c:Nat)(l:List UInt8)(w:World)(hl:l.length=244)(h:Bys w (.slice a 244 c) l) :
 Calls Tryz.prog 74 #[.slice a 244 c] w (SlotsP l w):=by
 have hcap:=Bys.cap h hl
 refine zin 54 Tryz.func74 ?_
 refine xr 20 (args:=#[.slice a 244 c,.int .i64 0,.int .i64 4]) (Lx a 244 c 0 4 0 4 l _ hl rfl rfl (by decide) (by decide) (by decide) (h.below (Below.refl w.heap.size _))) fun W1 hb1=>?_
 refine xg 13 [19,20] (decide ((↑(Zh l 0 4):Int)>(15:Int))) (fun hc2=>?_) (fun hc2=>?_)
 ·have hc2:=of_decide_eq_true hc2
  refine xe 19 (.tuple #[.slice none 0 0,.int .i64 7]) ?_
  have he:Bc l=7:=by unfold Bc Bn;rw[decide_eq_false (by omega),Bool.false_and,if_neg (by decide)]
  exact .inl ⟨by rw[he];decide,by rw[he],hb1⟩
 have hc2:=of_decide_eq_false hc2
 refine xwm 2 (16*(↑(Zh l 0 4):Int)) (↑(16*(Zh l 0 4)):Int) ?_
 refine xwm 0 (4+(↑(16*(Zh l 0 4)):Int)) (↑(4+(16*(Zh l 0 4))):Int) ?_
 refine xsL 0 (fun _ _ _ _ zo zx zy V=>Yg (k:=(4+(16*(Zh l 0 4)))) (b:=a) (n:=244) (c:=c) (i:=(↑(4+(16*(Zh l 0 4))):Int)) (ki:=.i64) 1 zo zx zy rfl (by omega) Tryz.underlying22 (by kernel_rfl) V) ?_
 refine xr 0 (args:=#[.slice (Qm a (4+(16*(Zh l 0 4))) c 1) (244-(4+(16*(Zh l 0 4)))) (c-(4+(16*(Zh l 0 4))))]) (Wz (Qm a (4+(16*(Zh l 0 4))) c 1) (244-(4+(16*(Zh l 0 4)))) (c-(4+(16*(Zh l 0 4)))) (l.drop (4+Zh l 0 4*16)) _ (by simp;omega) (by omega) ((bysZ h hl (by omega)).below hb1)) fun W3 hb3=>?_
 refine xi 4 (!(Vc (l.drop (4+Zh l 0 4*16)))) (fun hc4=>?_) (fun hc4=>?_)
 ·have hze:Vc (l.drop (4+Zh l 0 4*16))=false:=not_t hc4
  have hB'1:=bln hb1 hb3
  refine xe 8 (.tuple #[.slice none 0 0,.int .i64 7]) ?_
  have he:Bc l=7:=by unfold Bc Bn;rw[hze,Bool.and_false,if_neg (by decide)]
  exact .inl ⟨by rw[he];decide,by rw[he],hB'1⟩
 have hze:Vc (l.drop (4+Zh l 0 4*16))=true:=not_f hc4
 have hB'2:=bln hb1 hb3
 refine zl 14 54 (fun zm zkv V=>∃ (i:Nat) (q:Option Addr) (d:Nat),zkv=[(0,.slice a 244 c),(4,.int .i64 (↑(Zh l 0 4):Int)),(6,.slice q i d),(7,.int .i64 (↑i:Int))]∧zm=(Zh l 0 4)-((↑i:Int)).toNat∧Below w.heap.size w V∧V.ownsRow w.heap.size 79 3 (.slice q i d) i ((Lv l i).flatMap Zd1)∧i≤(Zh l 0 4)∧Nl l i=0) ⟨0,_,_,rfl,rfl,hB'2,World.ownsRow_nil _ _ _ _,Nat.zero_le _,rfl⟩ ?_
 rintro _ _ W5 ⟨i,q,d,rfl,rfl,hB_5,ho,hi,hz⟩ J5 hJ5 r5
 refine xid 8 ((↑i:Int)<(↑(Zh l 0 4):Int)) (fun hc6=>?_) (fun hc6=>?_)
 ·refine xwm 8 (16*(↑i:Int)) (↑(16*i):Int) ?_
  refine xwm 0 (4+(↑(16*i):Int)) (↑(4+(16*i)):Int) ?_
  refine xwm 1 (16*(↑i:Int)) (↑(16*i):Int) ?_
  refine xwm 0 (20+(↑(16*i):Int)) (↑(20+(16*i)):Int) ?_
  refine xsB 0 (fun _ _ _ _ _ zo zx zy zz V=>Qb (k:=(4+(16*i))) (h:=(20+(16*i))) (b:=a) (n:=244) (c:=c) (i:=(↑(4+(16*i)):Int)) (ki:=.i64) (j:=(↑(20+(16*i)):Int)) (kj:=.i64) 1 zo zx zy rfl zz rfl (by omega) (by omega) Tryz.underlying22 (by kernel_rfl) V) ?_
  refine xcv0 0 (fun _ _ _ zo zx=>Qi zo zx ((slot_cut (i:=i) h hl (by omega)).below hB_5) (Zey (i:=i) hl (by omega)) Tryz.underlying22 Tryz.underlying5 Tryz.underlying9) ?_
  refine xc 0 (args:=#[.string ⟨(Vt l i).toArray⟩]) (Rb l i _ (by rw[Mr hl (by omega)];decide)) ?_
  rintro e W7 hq7
  rcases hq7 with ⟨hz0,rfl,hb7⟩|⟨hz0,rfl,hb7⟩
  ·refine xa 3 [.int .i64 0,.int .i64 0,.int .i64 0] 79 fun b8 W8 n8=>?_
   have hB'3:=bln hB_5 hb7
   have g8:=n8.ge hB'3
   have ho'1:=Zb ho hb7
   have r8_ho:=Zu ho'1 n8
   refine xsv 0 n8.blk [.int .i64 (↑(Qu l i 0):Int),.int .i64 (↑(Qu l i 1):Int),.int .i64 (↑(Qu l i 2):Int)] fun W9 u9 k9=>?_
   refine xlv 15 k9.rp ?_
   refine xbs 0 1 [.int .i64 (↑(Qu l i 0):Int),.int .i64 (↑(Qu l i 1):Int),.int .i64 (↑(Qu l i 2):Int)] 79 fun b10 W10 n10=>?_
   have d10_b8:=n10.ne k9
   have hB'4:=u9.below (bln hB'3 n8.below) g8
   have g10:=n10.ge hB'4
   have ho'2:=u9.own3 (Zb ho'1 n8.below) r8_ho
   have r10_ho:=Zu ho'2 n10
   have ho'3:=Zb ho'2 n10.below
   have hB'5:=bln hB'4 n10.below
   refine xbi 0 fun _ _ _ _ zJ zQ zo zx zy zK=>Zp (m:=1) (news:=[.int .i64 (↑(Qu l i 0):Int),.int .i64 (↑(Qu l i 1):Int),.int .i64 (↑(Qu l i 2):Int)]) (.agg #[.int .i64 0,.int .i64 0,.int .i64 0]) 3 24 (i+1) (((Lv l (i+1)).flatMap Zd1)) zo Tryz.underlying99 (by kernel_rfl) rfl (by decide) zx ho'3 zy (n10.blk.sl 1 1 (by decide) (by decide)) rfl (by simp[Value.oneCell']) (by unfold maxLen;omega) (by omega) hB'5.size (by rfl) (by rw[Ob,List.flatMap_append];rfl) fun px11 cx11 W11 o11 hg11 hb11=>?_
   refine zK _ _ ?_
   refine xwm 6 ((↑i:Int)+1) (↑(i+1):Int) ?_
   have hB'6:=hB'5.trans hb11
   exact ze 2 (hJ5 _ _ _ ⟨i+1,_,_,rfl,rfl,hB'6,o11,by omega,Tx hz hz0⟩ (by omega))
  refine xa 3 [.int .i64 0,.int .i64 0,.int .i64 0] 79 fun b12 W12 n12=>?_
  have hB'7:=bln hB_5 hb7
  have g12:=n12.ge hB'7
  have ho'4:=Zb ho hb7
  have r12_ho:=Zu ho'4 n12
  refine xsv 0 n12.blk [.int .i64 (↑(Qu l i 0):Int),.int .i64 (↑(Qu l i 1):Int),.int .i64 (↑(Qu l i 2):Int)] fun W13 u13 k13=>?_
  refine xk 10 (show(((Xq Xo (Vt l i)) != (0:Int)):Bool)=true from bne_iff_ne.2 hz0) ?_
  have hB'8:=u13.below (bln hB'7 n12.below) g12
  refine xe 13 (.tuple #[.slice none 0 0,.int .i64 2]) ?_
  have hok:Bn l=true:=by unfold Bn;rw[hze,decide_eq_true (by omega)];rfl
  have h2:Xq Xo (Vt l i)=2:=(slot_two hl (by omega)).resolve_left hz0
  have he:Bc l=2:=by unfold Bc;rw[if_pos hok,Zg7 hz hz0 (by omega),h2]
  exact .inl ⟨by rw[he];decide,by rw[he],hB'8⟩
 refine xe 13 (.tuple #[.slice q i d,.int .i64 0]) ?_
 have hok:Bn l=true:=by unfold Bn;rw[hze,decide_eq_true (by omega)];rfl
 obtain rfl:i=Zh l 0 4:=by omega
 exact .inr ⟨by unfold Bc;rw[if_pos hok,hz],_,_,rfl,hB_5,ho⟩
def Vg(l:List UInt8)(no:Int):List Int:=if Xg l no=0 then Pz (inB l no) (Zh (inB l no) 0 4) else []
def Xv(l:List UInt8)(no:Int):List (Nat×Nat×Nat):=if Xw l no=0 then Lv (inB l no) (Zh (inB l no) 0 4) else []
theorem Fh{l:List UInt8}{no:Int}(h:Xg l no=0):Vg l no=Pz (inB l no) (Zh (inB l no) 0 4)∧(Vg l no).length=Zh (inB l no) 0 4:=by unfold Vg;rw[if_pos h];exact⟨rfl,Er _ _⟩
theorem Ev{l:List UInt8}{no:Int}(h:Xg l no≠0):Vg l no=[]:=if_neg h
theorem On{l:List UInt8}{no:Int}(h:Xw l no=0):Xv l no=Lv (inB l no) (Zh (inB l no) 0 4)∧(Xv l no).length=Zh (inB l no) 0 4:=by unfold Xv;rw[if_pos h];exact⟨rfl,sltsL_len _ _⟩
theorem Zad{l:List UInt8}{no:Int}(h:Xw l no≠0):Xv l no=[]:=if_neg h
theorem bitI_map(l:List UInt8)(n:Nat):(Pz l n).map (Value.int .i64)=(Ea l n).map nv:=by simp[Pz,nv]
def RBitsU(l:List UInt8)(no:Int)(w:World)(e:Ending)(w':World):Prop :=
 ∃ p c a5 c5,e=.returned (.tuple #[.slice p (Vg l no).length c,.agg #[.slice a5 (Gn no (Xg l no)).length c5,.int .i64 (Xg l no)]])∧Below w.heap.size w w'∧w'.ownsRow w.heap.size 3 1 (.slice p (Vg l no).length c) (Vg l no).length ((Vg l no).map (Value.int .i64))∧w'.ownsRow w.heap.size 3 1 (.slice a5 (Gn no (Xg l no)).length c5) (Gn no (Xg l no)).length ((Gn no (Xg l no)).map (Value.int .i64))
def RIdxU(l:List UInt8)(no:Int)(w:World)(e:Ending)(w':World):Prop :=
 ∃ p c a5 c5,e=.returned (.tuple #[.slice p (Xv l no).length c,.agg #[.slice a5 (Gn no (Xw l no)).length c5,.int .i64 (Xw l no)]])∧Below w.heap.size w w'∧w'.ownsRow w.heap.size 79 3 (.slice p (Xv l no).length c) (Xv l no).length ((Xv l no).flatMap Zd1)∧w'.ownsRow w.heap.size 3 1 (.slice a5 (Gn no (Xw l no)).length c5) (Gn no (Xw l no)).length ((Gn no (Xw l no)).map (Value.int .i64))
theorem rbitsU_ok{l:List UInt8}{no:Int}{w W:World}{p a5:Option Addr}{c c5:Nat}(he:Xg l no=0)(hb:Below w.heap.size w W)(ho:W.ownsRow w.heap.size 3 1 (.slice p (Zh (inB l no) 0 4) c) (Zh (inB l no) 0 4) ((Pz (inB l no) (Zh (inB l no) 0 4)).map (Value.int .i64)))(h5:W.ownsRow w.heap.size 3 1 (.slice a5 (Gn no 0).length c5) (Gn no 0).length ((Gn no 0).map (Value.int .i64))) :
 RBitsU l no w (.returned (.tuple #[.slice p (Zh (inB l no) 0 4) c,.agg #[.slice a5 (Gn no 0).length c5,.int .i64 0]])) W:=by
 obtain⟨h1,h2⟩:=Fh he
 refine⟨p,c,a5,c5,by rw[h2,he],hb,?_,by rw[he];exact h5⟩
 rw[h2,h1];exact ho
theorem Ac{l:List UInt8}{no er:Int}{w W:World}{a5:Option Addr}{c5:Nat}(he:Xg l no=er)(hz:er≠0)(hb:Below w.heap.size w W)(h5:W.ownsRow w.heap.size 3 1 (.slice a5 (Gn no er).length c5) (Gn no er).length ((Gn no er).map (Value.int .i64))) :
 RBitsU l no w (.returned (.tuple #[.slice none 0 0,.agg #[.slice a5 (Gn no er).length c5,.int .i64 er]])) W:=by
 subst he
 refine⟨none,0,a5,c5,by rw[Ev hz];rfl,hb,?_,h5⟩
 rw[Ev hz];exact World.ownsRow_nil _ _ _ _
theorem ridxU_ok{l:List UInt8}{no:Int}{w W:World}{p a5:Option Addr}{c c5:Nat}(he:Xw l no=0)(hb:Below w.heap.size w W)(ho:W.ownsRow w.heap.size 79 3 (.slice p (Zh (inB l no) 0 4) c) (Zh (inB l no) 0 4) ((Lv (inB l no) (Zh (inB l no) 0 4)).flatMap Zd1))(h5:W.ownsRow w.heap.size 3 1 (.slice a5 (Gn no 0).length c5) (Gn no 0).length ((Gn no 0).map (Value.int .i64))) :
 RIdxU l no w (.returned (.tuple #[.slice p (Zh (inB l no) 0 4) c,.agg #[.slice a5 (Gn no 0).length c5,.int .i64 0]])) W:=by
 obtain⟨h1,h2⟩:=On he
 refine⟨p,c,a5,c5,by rw[h2,he],hb,?_,by rw[he];exact h5⟩
 rw[h2,h1];exact ho
theorem Zbh{l:List UInt8}{no er:Int}{w W:World}{a5:Option Addr}{c5:Nat}(he:Xw l no=er)(hz:er≠0)(hb:Below w.heap.size w W)(h5:W.ownsRow w.heap.size 3 1 (.slice a5 (Gn no er).length c5) (Gn no er).length ((Gn no er).map (Value.int .i64))) :
 RIdxU l no w (.returned (.tuple #[.slice none 0 0,.agg #[.slice a5 (Gn no er).length c5,.int .i64 er]])) W:=by
 subst he
 refine⟨none,0,a5,c5,by rw[Zad hz];rfl,hb,?_,h5⟩
 rw[Zad hz];exact World.ownsRow_nil _ _ _ _
theorem ref11_Bits(B bm:Nat)(p:Option Addr)(k c:Nat)(l:List UInt8)(no:Int)(w:World)(hI:RefI B bm p k c l w) :
 Calls Tryz.prog 66 #[.pointer (some ⟨bm,0,none⟩),.int .i64 no] w (RBitsU l no w):=by
 refine zin 30 Tryz.func66 ?_
 refine xa 3 [.slice none 0 0,.int .i64 0] 43 fun b1 W1 n1=>?_
 have hI'1:=hI.below n1.below
 refine xc 6 (args:=#[.pointer (some ⟨bm,0,none⟩),.int .i64 no,.int .i64 3]) (Zaf B bm p k c l _ hI'1 no 3) ?_
 rintro e W2 hq2
 rcases hq2 with ⟨hse,rfl,hb2⟩|⟨hse,hil,p3,c3,rfl,hb2,h3⟩
 ·refine xk 14 (show(((inE l 3 no) != (0:Int)):Bool)=true from bne_iff_ne.2 hse) ?_
  refine xc 4 (args:=#[.int .i64 no,.int .i64 (inE l 3 no)]) (Gv no (inE l 3 no) _) ?_
  rintro _ W3 ⟨a5,c5,rfl,hb3,hQ5⟩
  have hs3:=(bln n1.below hb2).size
  have k1:=(n1.blk.below hb2).below hb3
  refine xsv 1 k1 [.slice a5 ((Gn no (inE l 3 no)).length) c5,.int .i64 (inE l 3 no)] fun W4 u4 k4=>?_
  have g1:=n1.ge (Below.refl w.heap.size _)
  have hB:=u4.below (bln (bln n1.below hb2) hb3) g1
  have hQ5'1:=u4.own2 (Zd hQ5 hs3) k1 (by decide)
  exact xec 4 k4 (.tuple #[.slice none 0 0,.agg #[.slice a5 ((Gn no (inE l 3 no)).length) c5,.int .i64 (inE l 3 no)]]) (Ac (by unfold Xg;rw[if_neg hse]) hse hB hQ5'1)
 have h3'1:=Zd h3 n1.below.size
 refine xc 20 (args:=#[.slice p3 244 c3]) (ref09_Read p3 c3 (inB l no) _ hil (Qk (Zf h3'1) hil)) ?_
 rintro e W5 hq5
 rcases hq5 with ⟨hz,rfl,hb5⟩|⟨hz,p4,c4,rfl,hb5,h4⟩
 ·refine xc 12 (args:=#[.int .i64 no,.int .i64 7]) (Gv no 7 _) ?_
  rintro _ W6 ⟨a5,c5,rfl,hb6,hQ5⟩
  have hs6:=(bln (bln n1.below hb2) hb5).size
  have k1:=((n1.blk.below hb2).below hb5).below hb6
  refine xsv 1 k1 [.slice a5 ((Gn no 7).length) c5,.int .i64 7] fun W7 u7 k7=>?_
  have g1:=n1.ge (Below.refl w.heap.size _)
  have hB:=u7.below (bln (bln (bln n1.below hb2) hb5) hb6) g1
  have hQ5'2:=u7.own2 (Zd hQ5 hs6) k1 (by decide)
  exact xec 3 k7 (.tuple #[.slice none 0 0,.agg #[.slice a5 ((Gn no 7).length) c5,.int .i64 7]]) (Ac (by unfold Xg;rw[if_pos hse,hz,if_neg (by decide)]) (by decide) hB hQ5'2)
 have hs5:=(bln n1.below hb2).size
 refine xc 12 (args:=#[.int .i64 no,.int .i64 0]) (Gv no 0 _) ?_
 rintro _ W8 ⟨a5,c5,rfl,hb8,hQ5⟩
 have hs8:=(bln (bln n1.below hb2) hb5).size
 have k1:=((n1.blk.below hb2).below hb5).below hb8
 refine xsv 1 k1 [.slice a5 ((Gn no 0).length) c5,.int .i64 0] fun W9 u9 k9=>?_
 have g1:=n1.ge (Below.refl w.heap.size _)
 have hB:=u9.below (bln (bln (bln n1.below hb2) hb5) hb8) g1
 have h4'1:=u9.own2 (Zb (Zd h4 hs5) hb8) k1 (by decide)
 have hQ5'3:=u9.own2 (Zd hQ5 hs8) k1 (by decide)
 exact xec 3 k9 (.tuple #[.slice p4 (Zh (inB l no) 0 4) c4,.agg #[.slice a5 ((Gn no 0).length) c5,.int .i64 0]]) (rbitsU_ok (by unfold Xg;rw[if_pos hse,if_pos hz]) hB h4'1 hQ5'3)
theorem Zfe(B bm:Nat)(p:Option Addr)(k c:Nat)(l:List UInt8)(no:Int)(w:World)(hI:RefI B bm p k c l w) :
 Calls Tryz.prog 44 #[.pointer (some ⟨bm,0,none⟩),.int .i64 no] w (RIdxU l no w):=by
 refine zin 30 Tryz.func44 ?_
 refine xa 3 [.slice none 0 0,.int .i64 0] 43 fun b1 W1 n1=>?_
 have hI'1:=hI.below n1.below
 refine xc 6 (args:=#[.pointer (some ⟨bm,0,none⟩),.int .i64 no,.int .i64 4]) (Zaf B bm p k c l _ hI'1 no 4) ?_
 rintro e W2 hq2
 rcases hq2 with ⟨hse,rfl,hb2⟩|⟨hse,hil,p3,c3,rfl,hb2,h3⟩
 ·refine xk 14 (show(((inE l 4 no) != (0:Int)):Bool)=true from bne_iff_ne.2 hse) ?_
  refine xc 4 (args:=#[.int .i64 no,.int .i64 (inE l 4 no)]) (Gv no (inE l 4 no) _) ?_
  rintro _ W3 ⟨a5,c5,rfl,hb3,hQ5⟩
  have hs3:=(bln n1.below hb2).size
  have k1:=(n1.blk.below hb2).below hb3
  refine xsv 1 k1 [.slice a5 ((Gn no (inE l 4 no)).length) c5,.int .i64 (inE l 4 no)] fun W4 u4 k4=>?_
  have g1:=n1.ge (Below.refl w.heap.size _)
  have hB:=u4.below (bln (bln n1.below hb2) hb3) g1
  have hQ5'1:=u4.own2 (Zd hQ5 hs3) k1 (by decide)
  exact xec 4 k4 (.tuple #[.slice none 0 0,.agg #[.slice a5 ((Gn no (inE l 4 no)).length) c5,.int .i64 (inE l 4 no)]]) (Zbh (by unfold Xw;rw[if_neg hse]) hse hB hQ5'1)
 have h3'1:=Zd h3 n1.below.size
 refine xc 20 (args:=#[.slice p3 244 c3]) (Zhd p3 c3 (inB l no) _ hil (Qk (Zf h3'1) hil)) ?_
 rintro e W5 hq5
 rcases hq5 with ⟨hz,rfl,hb5⟩|⟨hz,p4,c4,rfl,hb5,h4⟩
 ·refine xc 12 (args:=#[.int .i64 no,.int .i64 (Bc (inB l no))]) (Gv no (Bc (inB l no)) _) ?_
  rintro _ W6 ⟨a5,c5,rfl,hb6,hQ5⟩
  have hs6:=(bln (bln n1.below hb2) hb5).size
  have k1:=((n1.blk.below hb2).below hb5).below hb6
  refine xsv 1 k1 [.slice a5 ((Gn no (Bc (inB l no))).length) c5,.int .i64 (Bc (inB l no))] fun W7 u7 k7=>?_
  have g1:=n1.ge (Below.refl w.heap.size _)
  have hB:=u7.below (bln (bln (bln n1.below hb2) hb5) hb6) g1
  have hQ5'2:=u7.own2 (Zd hQ5 hs6) k1 (by decide)
  exact xec 3 k7 (.tuple #[.slice none 0 0,.agg #[.slice a5 ((Gn no (Bc (inB l no))).length) c5,.int .i64 (Bc (inB l no))]]) (Zbh (by unfold Xw;rw[if_pos hse]) hz hB hQ5'2)
 have hs5:=(bln n1.below hb2).size
 refine xc 12 (args:=#[.int .i64 no,.int .i64 0]) (Gv no 0 _) ?_
 rintro _ W8 ⟨a5,c5,rfl,hb8,hQ5⟩
 have hs8:=(bln (bln n1.below hb2) hb5).size
 have k1:=((n1.blk.below hb2).below hb5).below hb8
 refine xsv 1 k1 [.slice a5 ((Gn no 0).length) c5,.int .i64 0] fun W9 u9 k9=>?_
 have g1:=n1.ge (Below.refl w.heap.size _)
 have hB:=u9.below (bln (bln (bln n1.below hb2) hb5) hb8) g1
 have h4'1:=u9.own2 (Zb (Zd h4 hs5) hb8) k1 (by decide)
 have hQ5'3:=u9.own2 (Zd hQ5 hs8) k1 (by decide)
 exact xec 3 k9 (.tuple #[.slice p4 (Zh (inB l no) 0 4) c4,.agg #[.slice a5 ((Gn no 0).length) c5,.int .i64 0]]) (ridxU_ok (by unfold Xw;rw[if_pos hse,hz]) hB h4'1 hQ5'3)
def bmI (n:Int):Nat:=bmN n.toNat
abbrev Plc:=(Nat×Nat×Nat)×Int×Int
def Ju:Plc:=((0,0,0),0,0)
def plcC(x:Plc):List Value:=[.int .i64 (x.1.1:Int),.int .i64 (x.1.2.1:Int),.int .i64 (x.1.2.2:Int),.int .i64 x.2.1,.int .i64 x.2.2]
theorem Zg0(x:Plc):(plcC x).length=5:=rfl
def Zac(l:List UInt8)(x:Plc)(want:Int):List Int×Int×List Int :=
 if x.2.2≠0 then([x.2.1],x.2.2,[])
 else if Xg l (x.1.1:Int)≠0 then([x.2.1,(x.1.1:Int)],Xg l (x.1.1:Int),[])
 else if((Vg l (x.1.1:Int)).length:Int)≠want then([x.2.1],7,[])
 else if Yn (Vg l (x.1.1:Int))=x.1.2.1∧Xm (Vg l (x.1.1:Int))=x.1.2.2 then([],0,Vg l (x.1.1:Int))
 else([x.2.1],13,[])
theorem Zdw{l:List UInt8}{x:Plc}{want:Int}(h:(Zac l x want).2.1=0):Zac l x want=([],0,Vg l (x.1.1:Int))∧((Vg l (x.1.1:Int)).length:Int)=want:=by
 unfold Zac at h ⊢
 by_cases h1:x.2.2=0
 ·rw[if_neg (fun q=>q h1)] at h ⊢
  by_cases h2:Xg l (x.1.1:Int)=0
  ·rw[if_neg (fun q=>q h2)] at h ⊢
   by_cases h3:((Vg l (x.1.1:Int)).length:Int)=want
   ·rw[if_neg (fun q=>q h3)] at h ⊢
    by_cases h4:Yn (Vg l (x.1.1:Int))=x.1.2.1∧Xm (Vg l (x.1.1:Int))=x.1.2.2
    ·rw[if_pos h4];exact⟨rfl,h3⟩
    ·rw[if_neg h4] at h;simp at h
   ·rw[if_pos h3] at h;simp at h
  ·rw[if_pos h2] at h;exact absurd h h2
 ·rw[if_pos h1] at h;exact absurd h h1
def Vk(n:Int)(i:Nat):Int:=if n-960*i<960 then n-960*i else 960
def Hu(l:List UInt8)(X:List Plc)(n:Int)(i:Nat):List Int×Int×List Int:=Zac l (X.getD i Ju) (Vk n i)
def Gs(l:List UInt8)(X:List Plc)(n:Int)(i:Nat):List (List Int):=(List.range i).map fun j=>Vg l ((X.getD j Ju).1.1:Int)
theorem Qa(l:List UInt8)(X:List Plc)(n:Int)(i:Nat):(Gs l X n i).length=i:=by simp[Gs]
theorem Zhc{l:List UInt8}{X:List Plc}{n:Int}{i j:Nat}(h:j<i):(Gs l X n i).getD j []=Vg l ((X.getD j Ju).1.1:Int):=by simp[Gs,List.getD,List.getElem?_range h]
theorem Zc0(l:List UInt8)(X:List Plc)(n:Int)(i:Nat):Gs l X n (i+1)=Gs l X n i++[Vg l ((X.getD i Ju).1.1:Int)]:=by simp[Gs,List.range_succ]
def allK(l:List UInt8)(X:List Plc)(n:Int)(i:Nat):Prop:=∀ j,j<i→(Hu l X n j).2.1=0
theorem My{l:List UInt8}{X:List Plc}{n:Int}{i:Nat}(h:allK l X n i)(h2:(Hu l X n i).2.1=0):allK l X n (i+1):=fun j hj=>by
 by_cases e:j=i
 ·subst e;exact h2
 ·exact h j (by omega)
theorem bitR_small(l:List UInt8)(no:Int):Hj (Vg l no):=by
 unfold Vg;split
 ·exact Bp _ _
 ·intro n hn;cases hn
theorem Zc1{l:List UInt8}{X:List Plc}{n:Int}(h:allK l X n X.length)(hX:X.length=bmI n):FormOk (Gs l X n X.length):=by
 have hw:∀ i,i<X.length→((Vg l ((X.getD i Ju).1.1:Int)).length:Int)=Vk n i:=fun i hi=>(Zdw (h i hi)).2
 constructor
 ·intro i hi
  rw[Qa] at hi ⊢
  rw[Zhc hi]
  have h1:=hw i hi
  unfold Vk at h1
  unfold bmI bmN at hX
  split at h1<;>refine⟨by omega,by omega,fun h2=>by omega⟩
 ·intro i hi
  rw[Qa] at hi
  rw[Zhc hi]
  exact bitR_small _ _
def Nk(l:List UInt8)(L:List (List Int))(over fuel:Int):List Int×Int×List Int :=
 if(Zj l over 5 fuel).fs≠[] then((Ym (Zj l over 5 fuel)).1,(Ym (Zj l over 5 fuel)).2,[])
 else if(Ka L.flatten (Zj l over 5 fuel).es).1≠0 then([over],(Ka L.flatten (Zj l over 5 fuel).es).1,[])
 else([],0,(Ka L.flatten (Zj l over 5 fuel).es).2)
theorem Zb0{l:List UInt8}{L:List (List Int)}{over fuel:Int}(h:(Zj l over 5 fuel).fs≠[]):Nk l L over fuel=((Ym (Zj l over 5 fuel)).1,(Ym (Zj l over 5 fuel)).2,[]):=if_pos h
theorem Ae{l:List UInt8}{L:List (List Int)}{over fuel:Int}(h:(Zj l over 5 fuel).fs=[])(h2:(Ka L.flatten (Zj l over 5 fuel).es).1≠0):Nk l L over fuel=([over],(Ka L.flatten (Zj l over 5 fuel).es).1,[]):=by
 unfold Nk;rw[if_neg (fun q=>q h),if_pos h2]
theorem Ot{l:List UInt8}{L:List (List Int)}{over fuel:Int}(h:(Zj l over 5 fuel).fs=[])(h2:(Ka L.flatten (Zj l over 5 fuel).es).1=0):Nk l L over fuel=([],0,(Ka L.flatten (Zj l over 5 fuel).es).2):=by
 unfold Nk;rw[if_neg (fun q=>q h),if_neg (fun q=>q h2)]
def Zdf(l:List UInt8)(X:List Plc)(over n fuel:Int):List Int×Int×List Int :=
 match (List.range X.length).find? (fun i=>(Hu l X n i).2.1 != 0) with
 | some i=>((Hu l X n i).1,(Hu l X n i).2.1,[])
 | none=>Nk l (Gs l X n X.length) over fuel
theorem Et{l:List UInt8}{X:List Plc}{over n fuel:Int}{i:Nat}(hi:i<X.length)(h:allK l X n i)(hb:(Hu l X n i).2.1≠0):Zdf l X over n fuel=((Hu l X n i).1,(Hu l X n i).2.1,[]):=by
 unfold Zdf
 rw[show(List.range X.length).find? (fun i=>(Hu l X n i).2.1 != 0)=some i from by
  rw[List.find?_range_eq_some]
  exact⟨by simpa using hb,List.mem_range.2 hi,fun m hm=>by simpa using h m hm⟩]
theorem By{l:List UInt8}{X:List Plc}{over n fuel:Int}(h:allK l X n X.length):Zdf l X over n fuel=Nk l (Gs l X n X.length) over fuel:=by
 unfold Zdf
 rw[show(List.range X.length).find? (fun i=>(Hu l X n i).2.1 != 0)=none from by
  rw[List.find?_eq_none]
  intro i hi
  have:=h i (List.mem_range.1 hi)
  simp[this]]
def slotT(v:List UInt8):Nat×Nat×Nat:=((Xy Xo v).getD 0 0,(Xy Xo v).getD 1 0,(Xy Xo v).getD 2 0)
def Zdi(x:Ent):Plc:=(slotT x.2.1,x.2.2,Xq Xo x.2.1)
def Jd(index:Int)(x:Nat×Nat×Nat):Plc:=(x,index,0)
def Av(es:List Ent):Bool:=(List.range es.length).all fun i=>(es.getD i Xp).1==(i:Int)
def Cj(l:List UInt8)(index over n fuel:Int):List Int×Int×List Int :=
 if(Zj l index 4 fuel).fs≠[] then((Ym (Zj l index 4 fuel)).1,(Ym (Zj l index 4 fuel)).2,[])
 else if(Zj l index 4 fuel).es.length≠bmI n then([index],7,[])
 else if Av (Zj l index 4 fuel).es=false then([index],7,[])
 else Zdf l ((Zj l index 4 fuel).es.map Zdi) over n fuel
def Uh(l:List UInt8)(index over n fuel:Int):List Int×Int×List Int :=
 if Xw l index≠0 then([index],Xw l index,[])
 else if(Xv l index).length≠bmI n then([index],7,[])
 else Zdf l ((Xv l index).map (Jd index)) over n fuel
theorem keysOk_bad{es:List Ent}{i:Nat}(hi:i<es.length)(h:(es.getD i Xp).1≠(i:Int)):Av es=false:=by
 unfold Av
 rw[List.all_eq_false]
 exact⟨i,List.mem_range.2 hi,by simpa using h⟩
theorem Zc9{es:List Ent}(h:∀ i,i<es.length→(es.getD i Xp).1=(i:Int)):Av es=true:=by
 unfold Av
 rw[List.all_eq_true]
 intro i hi
 simpa using h i (List.mem_range.1 hi)
theorem La{l:List UInt8}{root tree fuel:Int}(h:(Zj l root tree fuel).fs≠[]):(Ym (Zj l root tree fuel)).2≠0:=by
 obtain⟨es,fs,hw⟩:=Un l root tree fuel
 have h2:(Zj l root tree fuel).fs=fs:=by rw[hw.fsE];rfl
 rw[(Qy h).2.1]
 rw[h2] at h ⊢
 cases fs with
 | nil=>exact absurd rfl h
 | cons f r=>exact(hw.flt f (by simp)).2.2
end Go.Proofs.YthlakkdgcgkcdaaGreatDoor
