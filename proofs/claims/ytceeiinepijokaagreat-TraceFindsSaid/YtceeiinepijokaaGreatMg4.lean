/- Package super: each, Right, Put, Read, whatever the bytes. -/
import Derived.Laws.StructEq
import Derived.Ground.SlgnProg
import Derived.Shelf.SlicesG.SearchI
import Derived.Test.YtceeiinepijokaaGreatProg
import Derived.Test.YtceeiinepijokaaGreatMg3
namespace Go.Proofs.YtceeiinepijokaaGreat
set_option maxHeartbeats 8000000
set_option maxRecDepth 100000
open Go.RowKit Go.Extern.Stop Go.Stop Go.Extern
set_option linter.unusedVariables false
attribute [local irreducible] wpList wpAnyH Code.wp Oper.wp Go
structure Sup where
 tx:Int
 time:Int
 unit:Int
 data:Int
 blocks:Int
 top:Int
 details:Int
 dslots:Int
 dover:Int
 mindex:Int
 mover:Int
def supC(s:Sup):List Value:=[V0 s.tx,V0 s.time,V0 s.unit,V0 s.data,V0 s.blocks,V0 s.top,V0 s.details,V0 s.dslots,V0 s.dover,V0 s.mindex,V0 s.mover]
def Im(s:Sup):List Int:=[s.tx,s.time,s.unit,s.data,s.blocks,s.top,s.details,s.dslots,s.dover,s.mindex,s.mover]
def Qh(s:Sup):Bool:=(((((((((((true&&decide ((0:Int)≤s.tx∧s.tx≤2147483647))&&decide ((0:Int)≤s.time∧s.time≤16777215))&&decide ((1:Int)≤s.unit∧s.unit≤65536))&&decide ((0:Int)≤s.data∧s.data≤65536))&&decide ((2:Int)≤s.blocks∧s.blocks≤14400))&&decide ((1:Int)≤s.top∧s.top≤(s.blocks-1)))&&decide ((1:Int)≤s.details∧s.details≤(s.blocks-1)))&&decide ((1:Int)≤s.dslots∧s.dslots≤(s.blocks-1)))&&decide ((1:Int)≤s.dover∧s.dover≤(s.blocks-1)))&&decide ((1:Int)≤s.mindex∧s.mindex≤(s.blocks-1)))&&decide ((1:Int)≤s.mover∧s.mover≤(s.blocks-1)))
def Zg(l:Bl):Sup:=⟨(Zm l 12 4:Int),(Zm l 16 4:Int),(Zm l 20 4:Int),(Zm l 24 4:Int),(Zm l 28 4:Int),(Zm l 32 4:Int),(Zm l 36 4:Int),(Zm l 40 4:Int),(Zm l 44 4:Int),(Zm l 48 4:Int),(Zm l 52 4:Int)⟩
def Wc:Bl:=[83,67,65,78,84,76,73,78]
def Hs(N:List Int):Bl:=N.flatMap fun n=>leB n 4
theorem Rn(N:List Int):(Hs N).length=N.length*4:=by
 unfold Hs
 induction N with
 | nil=>rfl
 | cons n N ih=>rw[List.flatMap_cons,List.length_append,Zj,ih,List.length_cons];omega
def Gw(s:Sup):Bl:=Wc++Hs (1::Im s)++List.replicate 188 0
theorem Ke(s:Sup):(Gw s).length=244:=by
 unfold Gw;rw[List.length_append,List.length_append,Rn,List.length_replicate];rfl
def supOk(l:Bl):Bool:=(l.take 8==Wc)&&decide (Zm l 8 4=1)&&Hc (l.drop 56)&&Qh (Zg l)
def Ac(n:Int):List Value:=[V0 4,V0 n]
theorem Zgz(n:Int):(Ac n).length=2:=rfl
theorem Ei{l:Bl}{k:Nat}(h:k+4≤l.length):l.drop k=leB (Zm l k 4:Int) 4++l.drop (k+4):=by
 rw[leB_raw h,←List.drop_drop,List.take_append_drop]
theorem drop8{l:Bl}(hl:l.length=244):l.drop 8=Hs ((Zm l 8 4:Int)::Im (Zg l))++l.drop 56:=by
 rw[Ei (k:=8) (by omega),Ei (k:=12) (by omega),Ei (k:=16) (by omega),Ei (k:=20) (by omega),Ei (k:=24) (by omega),Ei (k:=28) (by omega),Ei (k:=32) (by omega),Ei (k:=36) (by omega),Ei (k:=40) (by omega),Ei (k:=44) (by omega),Ei (k:=48) (by omega),Ei (k:=52) (by omega)]
 simp[Hs,Im,Zg]
theorem zeroB_iff(l:Bl):Hc l=true↔l=List.replicate l.length 0:=by
 unfold Hc
 rw[List.all_eq_true]
 constructor
 ·intro h;exact List.eq_replicate_iff.2 ⟨rfl,fun x hx=>by simpa using h x hx⟩
 ·intro h x hx;rw[h] at hx;rw[(List.mem_replicate.1 hx).2];rfl
theorem supB_eq{l:Bl}(hl:l.length=244):(Gw (Zg l)==l)=((l.take 8==Wc)&&decide (Zm l 8 4=1)&&Hc (l.drop 56)):=by
 have e1:l=l.take 8++(Hs ((Zm l 8 4:Int)::Im (Zg l))++l.drop 56):=by rw[←drop8 hl,List.take_append_drop]
 have h8:(l.take 8).length=Wc.length:=by simp[Wc];omega
 have hn:∀ x:Int,(Hs (x::Im (Zg l))).length=48:=fun x=>by rw[Rn];rfl
 have hr:=Vk l 8 4 (by decide)
 have a0:(l.drop 56).length=188:=by simp;omega
 rw[Bool.eq_iff_iff,beq_iff_eq,Bool.and_eq_true,Bool.and_eq_true,beq_iff_eq,decide_eq_true_iff,zeroB_iff,a0]
 constructor
 ·intro h
  have e2:=h.trans e1
  rw[Gw,List.append_assoc] at e2
  obtain⟨a1,a2⟩:=List.append_inj e2 h8.symm
  obtain⟨a3,a4⟩:=List.append_inj a2 (by rw[hn,hn])
  have a5:leB (1:Int) 4=leB (Zm l 8 4:Int) 4:=by
   unfold Hs at a3
   rw[List.flatMap_cons,List.flatMap_cons] at a3
   exact(List.append_inj a3 (by rw[Zj,Zj])).1
  have a6:=leB_inj (m:=1) (n:=Zm l 8 4) (w:=4) (by decide) (by omega) a5
  exact⟨⟨a1.symm,a6.symm⟩,a4.symm⟩
 ·rintro⟨⟨a1,a2⟩,a3⟩
  conv=>rhs;rw[e1]
  rw[a1,a2,a3,Gw,List.append_assoc];rfl
theorem Vc(B bs bl bat off k:Nat)(cs:List Value)(a:O0)(c:Nat)(l:Bl)(lo hi:Value)(w:World)(hBw:B≤w.heap.size)(hBs:B≤bs)(hBa:B≤bat)(ks:Blk w bs cs 30)(ho:off<cs.length)(kl:Blk w bl [.slice a 244 c] 22)(ka:Blk w bat [V0 (k:Int)] 3)(hl:l.length=244)(h:Bys w (.slice a 244 c) l)(hk:k+4≤244) :
 C0 77 #[.pointer (some ⟨bs,off,none⟩),lo,hi,P0 bl,P0 bat] w ((fun e w'=>∃ u,e=.returned u∧Below B w w'∧Zd [30,3] w w'∧Blk w' bs (cs.set off (V0 (Zm l k 4:Int))) 30∧Blk w' bat [V0 (↑(k+4):Int)] 3)):=by
 refine zin 18 Tryz.func77 ?_
 refine xb 3 0 kl ?_
 refine xb 0 0 ka ?_
 refine xr 0 (args:=#[.slice a 244 c,V0 (k:Int),V0 4]) (Get_okN a 244 c k 4 (k:Int) 4 l _ hl rfl rfl (by decide) hk (by decide) h) fun W1 a2=>?_
 have a1:=ks.below a2
 refine xsg 4 a1 off (V0 (↑(Zm l k 4):Int)) (ho) fun W2 u2 k2=>?_
 replace k2:Blk W2 bs (cs.set off (V0 (Zm l k 4:Int))) 30:=by rw[←(Eq.refl (cs.set off (V0 (Zm l k 4:Int))))];exact k2
 have a0:=u2.blkT (ka.below a2) a1 (by decide)
 refine xb 3 0 a0 ?_
 refine xwm 0 ((k:Int)+4) (↑(k+4):Int) ?_
 refine xs 0 a0 [V0 (↑(k+4):Int)] fun W3 u3 k3=>?_
 have hB:=u3.below (u2.below (blB (Below.refl B w) hBw a2) hBs) hBa
 have hO:=((show Zd [30,3] w _ from(Zd.of_below a2)).trans (Zd.of_upd u2 a1 (by decide))).trans (Zd.of_upd u3 a0 (by decide))
 have a3:=u3.blkT k2 a0 (by decide)
 exact xe 1 (.tuple #[]) ⟨_,rfl,hB,hO,a3,k3⟩
theorem Qd(B bs bo off:Nat)(cs:List Value)(n lo hi:Int)(b:Bool)(w:World)(hBw:B≤w.heap.size)(hBo:B≤bo)(ks:Blk w bs cs 30)(hn:cs[off]? = some (V0 n))(ko:Blk w bo [.bool b] 4) :
 C0 98 #[.pointer (some ⟨bs,off,none⟩),V0 lo,V0 hi,P0 bo] w ((fun e w'=>∃ u,e=.returned u∧Below B w w'∧Zd [4] w w'∧Blk w' bo [.bool (b&&decide ((lo:Int)≤n∧n≤hi))] 4)):=by
 refine zin 22 Tryz.func98 ?_
 refine xb 1 0 ko ?_
 refine xg 1 [7,8] b (fun a1=>?_) (fun a1=>?_)
 ·refine xl 2 (ks.cell (i:=off) hn) ?_
  refine xg 4 [13,14,15] (decide (n≥lo)) (fun a0=>?_) (fun a0=>?_)
  ·have a0:=of_decide_eq_true a0
   refine xl 2 (ks.cell (i:=off) hn) ?_
   refine xs 3 ko [.bool (decide (n≤hi))] fun W3 u3 k3=>?_
   have hB:=u3.below (Below.refl B w) hBo
   have hO:=(show Zd [4] w _ from(Zd.of_upd u3 ko (by decide)))
   exact xe 1 (.tuple #[]) ⟨_,rfl,hB,hO,by rw[show(b&&decide ((lo:Int)≤n∧n≤hi))=decide (n≤hi) from by first|(rw[show decide ((lo:Int)≤n∧n≤hi)=false from decide_eq_false (by omega),Bool.and_false];done)|(simp_all;done)|(simp_all;omega)];exact k3⟩
  have a0:=of_decide_eq_false a0
  refine xs 6 ko [.bool false] fun W4 u4 k4=>?_
  have hB:=u4.below (Below.refl B w) hBo
  have hO:=(show Zd [4] w _ from(Zd.of_upd u4 ko (by decide)))
  exact xe 1 (.tuple #[]) ⟨_,rfl,hB,hO,by rw[show(b&&decide ((lo:Int)≤n∧n≤hi))=false from by first|(rw[show decide ((lo:Int)≤n∧n≤hi)=false from decide_eq_false (by omega),Bool.and_false];done)|(simp_all;done)|(simp_all;omega)];exact k4⟩
 refine xs 13 ko [.bool false] fun W5 u5 k5=>?_
 have hB:=u5.below (Below.refl B w) hBo
 have hO:=(show Zd [4] w _ from(Zd.of_upd u5 ko (by decide)))
 exact xe 1 (.tuple #[]) ⟨_,rfl,hB,hO,by rw[show(b&&decide ((lo:Int)≤n∧n≤hi))=false from by first|(rw[show decide ((lo:Int)≤n∧n≤hi)=false from decide_eq_false (by omega),Bool.and_false];done)|(simp_all;done)|(simp_all;omega)];exact k5⟩
theorem Za1(B bs bl bat:Nat)(a:O0)(c:Nat)(l:Bl)(w:World)(hBw:B≤w.heap.size)(hBs:B≤bs)(hBa:B≤bat)(ks:Blk w bs [V0 0,V0 0,V0 0,V0 0,V0 0,V0 0,V0 0,V0 0,V0 0,V0 0,V0 0] 30)(kl:Blk w bl [.slice a 244 c] 22)(ka:Blk w bat [V0 (↑(12:Nat):Int)] 3)(hl:l.length=244)(hin:∀ W,Below B w W→Bys W (.slice a 244 c) l) :
 C0 76 #[P0 bs,.func (.func 77) #[] #[P0 bl,P0 bat]] w ((fun e w'=>∃ u,e=.returned u∧Below B w w'∧Zd [30,3] w w'∧Blk w' bs (supC (Zg l)) 30)):=by
 have f0:=Vk l 28 4 (by decide)
 refine zin 64 Tryz.func76 ?_
 refine xc 6 (args:=#[P0 bs,V0 0,V0 2147483647,P0 bl,P0 bat]) (Vc B bs bl bat 0 12 _ a c l _ _ _ (Nat.le_trans hBw (Below.refl B _).size) hBs hBa ks (by simp) kl ka hl (hin _ (Below.refl B _)) (by decide)) ?_
 rintro _ W1 ⟨u1,rfl,e5,f2,f4,g3⟩
 change Blk _ _ [V0 (↑(Zm l 12 4):Int),V0 0,V0 0,V0 0,V0 0,V0 0,V0 0,V0 0,V0 0,V0 0,V0 0] _ at f4
 change Blk _ _ [V0 (↑(16:Nat):Int)] _ at g3
 have c0:=kl.only f2 (by decide)
 refine xc 8 (args:=#[.pointer (some ⟨bs,1,none⟩),V0 0,V0 16777215,P0 bl,P0 bat]) (Vc B bs bl bat 1 16 _ a c l _ _ _ (Nat.le_trans hBw e5.size) hBs hBa f4 (by simp) c0 g3 hl (hin _ e5) (by decide)) ?_
 rintro _ W2 ⟨u2,rfl,g9,f5,e8,g2⟩
 change Blk _ _ [V0 (↑(Zm l 12 4):Int),V0 (↑(Zm l 16 4):Int),V0 0,V0 0,V0 0,V0 0,V0 0,V0 0,V0 0,V0 0,V0 0] _ at e8
 change Blk _ _ [V0 (↑(20:Nat):Int)] _ at g2
 have a3:=e5.trans g9
 have d4:=c0.only f5 (by decide)
 refine xc 8 (args:=#[.pointer (some ⟨bs,2,none⟩),V0 1,V0 65536,P0 bl,P0 bat]) (Vc B bs bl bat 2 20 _ a c l _ _ _ (Nat.le_trans hBw a3.size) hBs hBa e8 (by simp) d4 g2 hl (hin _ a3) (by decide)) ?_
 rintro _ W3 ⟨u3,rfl,h0,e9,f1,g5⟩
 change Blk _ _ [V0 (↑(Zm l 12 4):Int),V0 (↑(Zm l 16 4):Int),V0 (↑(Zm l 20 4):Int),V0 0,V0 0,V0 0,V0 0,V0 0,V0 0,V0 0,V0 0] _ at f1
 change Blk _ _ [V0 (↑(24:Nat):Int)] _ at g5
 have a5:=a3.trans h0
 have c5:=d4.only e9 (by decide)
 refine xc 8 (args:=#[.pointer (some ⟨bs,3,none⟩),V0 0,V0 65536,P0 bl,P0 bat]) (Vc B bs bl bat 3 24 _ a c l _ _ _ (Nat.le_trans hBw a5.size) hBs hBa f1 (by simp) c5 g5 hl (hin _ a5) (by decide)) ?_
 rintro _ W4 ⟨u4,rfl,f0,g8,f3,f9⟩
 change Blk _ _ [V0 (↑(Zm l 12 4):Int),V0 (↑(Zm l 16 4):Int),V0 (↑(Zm l 20 4):Int),V0 (↑(Zm l 24 4):Int),V0 0,V0 0,V0 0,V0 0,V0 0,V0 0,V0 0] _ at f3
 change Blk _ _ [V0 (↑(28:Nat):Int)] _ at f9
 have b2:=a5.trans f0
 have c2:=c5.only g8 (by decide)
 refine xc 8 (args:=#[.pointer (some ⟨bs,4,none⟩),V0 2,V0 14400,P0 bl,P0 bat]) (Vc B bs bl bat 4 28 _ a c l _ _ _ (Nat.le_trans hBw b2.size) hBs hBa f3 (by simp) c2 f9 hl (hin _ b2) (by decide)) ?_
 rintro _ W5 ⟨u5,rfl,h3,f8,g1,g7⟩
 change Blk _ _ [V0 (↑(Zm l 12 4):Int),V0 (↑(Zm l 16 4):Int),V0 (↑(Zm l 20 4):Int),V0 (↑(Zm l 24 4):Int),V0 (↑(Zm l 28 4):Int),V0 0,V0 0,V0 0,V0 0,V0 0,V0 0] _ at g1
 change Blk _ _ [V0 (↑(32:Nat):Int)] _ at g7
 refine xd 3 .z ?_
 refine xbs (.o [0,1,2,3,4,5,6,7,8,9,10,11,12,13,14,15,16,17,20] 18) 6 [.pointer (some ⟨bs,5,none⟩),.pointer (some ⟨bs,6,none⟩),.pointer (some ⟨bs,7,none⟩),.pointer (some ⟨bs,8,none⟩),.pointer (some ⟨bs,9,none⟩),.pointer (some ⟨bs,10,none⟩)] 168 fun b6 W6 n6=>?_
 have d0:=blB (b2.trans h3) hBw (Za W5)
 have g6:=n6.ge0 d0
 refine xu (.r [19] 3) 7 ?_
 refine xb 14 0 n6.blk ?_
 have a1:=(g1.below (Za W5)).below n6.below
 refine xb 9 4 a1 ?_
 refine xw 0 ((↑(Zm l 28 4):Int)-1) ?_
 have a9:=blB d0 hBw n6.below
 have b4:=((c2.only f8 (by decide)).below (Za W5)).below n6.below
 have c3:=(g7.below (Za W5)).below n6.below
 refine xc 0 (args:=#[.pointer (some ⟨bs,5,none⟩),V0 1,V0 ((↑(Zm l 28 4):Int)-1),P0 bl,P0 bat]) (Vc B bs bl bat 5 32 _ a c l _ _ _ (Nat.le_trans hBw a9.size) hBs hBa a1 (by simp) b4 c3 hl (hin _ a9) (by decide)) ?_
 rintro _ W7 ⟨u7,rfl,h2,e3,d7,f6⟩
 change Blk _ _ [V0 (↑(Zm l 12 4):Int),V0 (↑(Zm l 16 4):Int),V0 (↑(Zm l 20 4):Int),V0 (↑(Zm l 24 4):Int),V0 (↑(Zm l 28 4):Int),V0 (↑(Zm l 32 4):Int),V0 0,V0 0,V0 0,V0 0,V0 0] _ at d7
 change Blk _ _ [V0 (↑(36:Nat):Int)] _ at f6
 have c4:=n6.blk.only e3 (by decide)
 refine xb 22 1 c4 ?_
 refine xb 9 4 d7 ?_
 refine xw 0 ((↑(Zm l 28 4):Int)-1) ?_
 have b0:=a9.trans h2
 have d1:=b4.only e3 (by decide)
 refine xc 0 (args:=#[.pointer (some ⟨bs,6,none⟩),V0 1,V0 ((↑(Zm l 28 4):Int)-1),P0 bl,P0 bat]) (Vc B bs bl bat 6 36 _ a c l _ _ _ (Nat.le_trans hBw b0.size) hBs hBa d7 (by simp) d1 f6 hl (hin _ b0) (by decide)) ?_
 rintro _ W8 ⟨u8,rfl,h1,e7,d6,f7⟩
 change Blk _ _ [V0 (↑(Zm l 12 4):Int),V0 (↑(Zm l 16 4):Int),V0 (↑(Zm l 20 4):Int),V0 (↑(Zm l 24 4):Int),V0 (↑(Zm l 28 4):Int),V0 (↑(Zm l 32 4):Int),V0 (↑(Zm l 36 4):Int),V0 0,V0 0,V0 0,V0 0] _ at d6
 change Blk _ _ [V0 (↑(40:Nat):Int)] _ at f7
 have c8:=c4.only e7 (by decide)
 refine xb 22 2 c8 ?_
 refine xb 9 4 d6 ?_
 refine xw 0 ((↑(Zm l 28 4):Int)-1) ?_
 have a4:=b0.trans h1
 have d3:=d1.only e7 (by decide)
 refine xc 0 (args:=#[.pointer (some ⟨bs,7,none⟩),V0 1,V0 ((↑(Zm l 28 4):Int)-1),P0 bl,P0 bat]) (Vc B bs bl bat 7 40 _ a c l _ _ _ (Nat.le_trans hBw a4.size) hBs hBa d6 (by simp) d3 f7 hl (hin _ a4) (by decide)) ?_
 rintro _ W9 ⟨u9,rfl,h4,e6,d5,g0⟩
 change Blk _ _ [V0 (↑(Zm l 12 4):Int),V0 (↑(Zm l 16 4):Int),V0 (↑(Zm l 20 4):Int),V0 (↑(Zm l 24 4):Int),V0 (↑(Zm l 28 4):Int),V0 (↑(Zm l 32 4):Int),V0 (↑(Zm l 36 4):Int),V0 (↑(Zm l 40 4):Int),V0 0,V0 0,V0 0] _ at d5
 change Blk _ _ [V0 (↑(44:Nat):Int)] _ at g0
 have b8:=c8.only e6 (by decide)
 refine xb 22 3 b8 ?_
 refine xb 9 4 d5 ?_
 refine xw 0 ((↑(Zm l 28 4):Int)-1) ?_
 have a8:=a4.trans h4
 have d2:=d3.only e6 (by decide)
 refine xc 0 (args:=#[.pointer (some ⟨bs,8,none⟩),V0 1,V0 ((↑(Zm l 28 4):Int)-1),P0 bl,P0 bat]) (Vc B bs bl bat 8 44 _ a c l _ _ _ (Nat.le_trans hBw a8.size) hBs hBa d5 (by simp) d2 g0 hl (hin _ a8) (by decide)) ?_
 rintro _ h7 ⟨h5,rfl,e2,a7,a6,b7⟩
 change Blk _ _ [V0 (↑(Zm l 12 4):Int),V0 (↑(Zm l 16 4):Int),V0 (↑(Zm l 20 4):Int),V0 (↑(Zm l 24 4):Int),V0 (↑(Zm l 28 4):Int),V0 (↑(Zm l 32 4):Int),V0 (↑(Zm l 36 4):Int),V0 (↑(Zm l 40 4):Int),V0 (↑(Zm l 44 4):Int),V0 0,V0 0] _ at a6
 change Blk _ _ [V0 (↑(48:Nat):Int)] _ at b7
 have b5:=b8.only a7 (by decide)
 refine xb 22 4 b5 ?_
 refine xb 9 4 a6 ?_
 refine xw 0 ((↑(Zm l 28 4):Int)-1) ?_
 have b1:=a8.trans e2
 have b9:=d2.only a7 (by decide)
 refine xc 0 (args:=#[.pointer (some ⟨bs,9,none⟩),V0 1,V0 ((↑(Zm l 28 4):Int)-1),P0 bl,P0 bat]) (Vc B bs bl bat 9 48 _ a c l _ _ _ (Nat.le_trans hBw b1.size) hBs hBa a6 (by simp) b9 b7 hl (hin _ b1) (by decide)) ?_
 rintro _ h9 ⟨h8,rfl,e1,b3,a2,c1⟩
 change Blk _ _ [V0 (↑(Zm l 12 4):Int),V0 (↑(Zm l 16 4):Int),V0 (↑(Zm l 20 4):Int),V0 (↑(Zm l 24 4):Int),V0 (↑(Zm l 28 4):Int),V0 (↑(Zm l 32 4):Int),V0 (↑(Zm l 36 4):Int),V0 (↑(Zm l 40 4):Int),V0 (↑(Zm l 44 4):Int),V0 (↑(Zm l 48 4):Int),V0 0] _ at a2
 change Blk _ _ [V0 (↑(52:Nat):Int)] _ at c1
 have e4:=b5.only b3 (by decide)
 refine xb 22 5 e4 ?_
 refine xb 9 4 a2 ?_
 refine xw 0 ((↑(Zm l 28 4):Int)-1) ?_
 have a0:=b1.trans e1
 have c7:=b9.only b3 (by decide)
 refine xc 0 (args:=#[.pointer (some ⟨bs,10,none⟩),V0 1,V0 ((↑(Zm l 28 4):Int)-1),P0 bl,P0 bat]) (Vc B bs bl bat 10 52 _ a c l _ _ _ (Nat.le_trans hBw a0.size) hBs hBa a2 (by simp) c7 c1 hl (hin _ a0) (by decide)) ?_
 rintro _ h6 ⟨i0,rfl,d9,d8,c9,e0⟩
 change Blk _ _ [V0 (↑(Zm l 12 4):Int),V0 (↑(Zm l 16 4):Int),V0 (↑(Zm l 20 4):Int),V0 (↑(Zm l 24 4):Int),V0 (↑(Zm l 28 4):Int),V0 (↑(Zm l 32 4):Int),V0 (↑(Zm l 36 4):Int),V0 (↑(Zm l 40 4):Int),V0 (↑(Zm l 44 4):Int),V0 (↑(Zm l 48 4):Int),V0 (↑(Zm l 52 4):Int)] _ at c9
 change Blk _ _ [V0 (↑(56:Nat):Int)] _ at e0
 have c6:=a0.trans d9
 have hO:=((((((((((((show Zd [30,3] w _ from f2).trans f5).trans e9).trans g8).trans f8).trans (Zd.of_below (Za W5))).trans (Zd.of_below n6.below)).trans e3).trans e7).trans e6).trans a7).trans b3).trans d8
 exact xe 19 (.tuple #[]) ⟨_,rfl,c6,hO,c9⟩
theorem Tl(B bs bo:Nat)(s:Sup)(w:World)(hBw:B≤w.heap.size)(hBo:B≤bo)(hb0:0≤s.blocks)(hb1:s.blocks<9223372036854775808)(ks:Blk w bs [V0 s.tx,V0 s.time,V0 s.unit,V0 s.data,V0 s.blocks,V0 s.top,V0 s.details,V0 s.dslots,V0 s.dover,V0 s.mindex,V0 s.mover] 30)(ko:Blk w bo [.bool true] 4) :
 C0 76 #[P0 bs,.func (.func 98) #[] #[P0 bo]] w ((fun e w'=>∃ u,e=.returned u∧Below B w w'∧Zd [4] w w'∧Blk w' bo [.bool (Qh s)] 4)):=by
 refine zin 64 Tryz.func76 ?_
 refine xc 6 (args:=#[P0 bs,V0 0,V0 2147483647,P0 bo]) (Qd B bs bo 0 _ s.tx 0 2147483647 true _ (Nat.le_trans hBw (Below.refl B _).size) hBo ks rfl ko) ?_
 rintro _ W1 ⟨u1,rfl,hb1,e4,f2⟩
 have a9:=ks.only e4 (by decide)
 refine xc 8 (args:=#[.pointer (some ⟨bs,1,none⟩),V0 0,V0 16777215,P0 bo]) (Qd B bs bo 1 _ s.time 0 16777215 (true&&decide ((0:Int)≤s.tx∧s.tx≤2147483647)) _ (Nat.le_trans hBw hb1.size) hBo a9 rfl f2) ?_
 rintro _ W2 ⟨u2,rfl,f6,e1,f1⟩
 have b9:=hb1.trans f6
 have c6:=a9.only e1 (by decide)
 refine xc 8 (args:=#[.pointer (some ⟨bs,2,none⟩),V0 1,V0 65536,P0 bo]) (Qd B bs bo 2 _ s.unit 1 65536 ((true&&decide ((0:Int)≤s.tx∧s.tx≤2147483647))&&decide ((0:Int)≤s.time∧s.time≤16777215)) _ (Nat.le_trans hBw b9.size) hBo c6 rfl f1) ?_
 rintro _ W3 ⟨u3,rfl,e8,e2,f7⟩
 have c5:=b9.trans e8
 have b4:=c6.only e2 (by decide)
 refine xc 8 (args:=#[.pointer (some ⟨bs,3,none⟩),V0 0,V0 65536,P0 bo]) (Qd B bs bo 3 _ s.data 0 65536 (((true&&decide ((0:Int)≤s.tx∧s.tx≤2147483647))&&decide ((0:Int)≤s.time∧s.time≤16777215))&&decide ((1:Int)≤s.unit∧s.unit≤65536)) _ (Nat.le_trans hBw c5.size) hBo b4 rfl f7) ?_
 rintro _ W4 ⟨u4,rfl,f5,e3,e6⟩
 have c7:=c5.trans f5
 have c1:=b4.only e3 (by decide)
 refine xc 8 (args:=#[.pointer (some ⟨bs,4,none⟩),V0 2,V0 14400,P0 bo]) (Qd B bs bo 4 _ s.blocks 2 14400 ((((true&&decide ((0:Int)≤s.tx∧s.tx≤2147483647))&&decide ((0:Int)≤s.time∧s.time≤16777215))&&decide ((1:Int)≤s.unit∧s.unit≤65536))&&decide ((0:Int)≤s.data∧s.data≤65536)) _ (Nat.le_trans hBw c7.size) hBo c1 rfl e6) ?_
 rintro _ W5 ⟨u5,rfl,e7,e0,f4⟩
 refine xd 3 .z ?_
 refine xbs (.o [0,1,2,3,4,5,6,7,8,9,10,11,12,13,14,15,16,17,20] 18) 6 [.pointer (some ⟨bs,5,none⟩),.pointer (some ⟨bs,6,none⟩),.pointer (some ⟨bs,7,none⟩),.pointer (some ⟨bs,8,none⟩),.pointer (some ⟨bs,9,none⟩),.pointer (some ⟨bs,10,none⟩)] 168 fun b6 W6 n6=>?_
 have c8:=blB (c7.trans e7) hBw (Za W5)
 have g6:=n6.ge0 c8
 refine xu (.r [19] 3) 7 ?_
 refine xb 14 0 n6.blk ?_
 have a5:=((c1.only e0 (by decide)).below (Za W5)).below n6.below
 refine xb 9 4 a5 ?_
 refine xw 0 (s.blocks-1) ?_
 have b5:=blB c8 hBw n6.below
 have c3:=(f4.below (Za W5)).below n6.below
 refine xc 0 (args:=#[.pointer (some ⟨bs,5,none⟩),V0 1,V0 (s.blocks-1),P0 bo]) (Qd B bs bo 5 _ s.top 1 (s.blocks-1) (((((true&&decide ((0:Int)≤s.tx∧s.tx≤2147483647))&&decide ((0:Int)≤s.time∧s.time≤16777215))&&decide ((1:Int)≤s.unit∧s.unit≤65536))&&decide ((0:Int)≤s.data∧s.data≤65536))&&decide ((2:Int)≤s.blocks∧s.blocks≤14400)) _ (Nat.le_trans hBw b5.size) hBo a5 rfl c3) ?_
 rintro _ W7 ⟨u7,rfl,f8,d4,f9⟩
 have b3:=n6.blk.only d4 (by decide)
 refine xb 22 1 b3 ?_
 have a3:=a5.only d4 (by decide)
 refine xb 9 4 a3 ?_
 refine xw 0 (s.blocks-1) ?_
 have b7:=b5.trans f8
 refine xc 0 (args:=#[.pointer (some ⟨bs,6,none⟩),V0 1,V0 (s.blocks-1),P0 bo]) (Qd B bs bo 6 _ s.details 1 (s.blocks-1) ((((((true&&decide ((0:Int)≤s.tx∧s.tx≤2147483647))&&decide ((0:Int)≤s.time∧s.time≤16777215))&&decide ((1:Int)≤s.unit∧s.unit≤65536))&&decide ((0:Int)≤s.data∧s.data≤65536))&&decide ((2:Int)≤s.blocks∧s.blocks≤14400))&&decide ((1:Int)≤s.top∧s.top≤(s.blocks-1))) _ (Nat.le_trans hBw b7.size) hBo a3 rfl f9) ?_
 rintro _ W8 ⟨u8,rfl,f0,d2,f3⟩
 have c4:=b3.only d2 (by decide)
 refine xb 22 2 c4 ?_
 have a6:=a3.only d2 (by decide)
 refine xb 9 4 a6 ?_
 refine xw 0 (s.blocks-1) ?_
 have c2:=b7.trans f0
 refine xc 0 (args:=#[.pointer (some ⟨bs,7,none⟩),V0 1,V0 (s.blocks-1),P0 bo]) (Qd B bs bo 7 _ s.dslots 1 (s.blocks-1) (((((((true&&decide ((0:Int)≤s.tx∧s.tx≤2147483647))&&decide ((0:Int)≤s.time∧s.time≤16777215))&&decide ((1:Int)≤s.unit∧s.unit≤65536))&&decide ((0:Int)≤s.data∧s.data≤65536))&&decide ((2:Int)≤s.blocks∧s.blocks≤14400))&&decide ((1:Int)≤s.top∧s.top≤(s.blocks-1)))&&decide ((1:Int)≤s.details∧s.details≤(s.blocks-1))) _ (Nat.le_trans hBw c2.size) hBo a6 rfl f3) ?_
 rintro _ W9 ⟨u9,rfl,e9,d8,e5⟩
 have b0:=c4.only d8 (by decide)
 refine xb 22 3 b0 ?_
 have a7:=a6.only d8 (by decide)
 refine xb 9 4 a7 ?_
 refine xw 0 (s.blocks-1) ?_
 have b2:=c2.trans e9
 refine xc 0 (args:=#[.pointer (some ⟨bs,8,none⟩),V0 1,V0 (s.blocks-1),P0 bo]) (Qd B bs bo 8 _ s.dover 1 (s.blocks-1) ((((((((true&&decide ((0:Int)≤s.tx∧s.tx≤2147483647))&&decide ((0:Int)≤s.time∧s.time≤16777215))&&decide ((1:Int)≤s.unit∧s.unit≤65536))&&decide ((0:Int)≤s.data∧s.data≤65536))&&decide ((2:Int)≤s.blocks∧s.blocks≤14400))&&decide ((1:Int)≤s.top∧s.top≤(s.blocks-1)))&&decide ((1:Int)≤s.details∧s.details≤(s.blocks-1)))&&decide ((1:Int)≤s.dslots∧s.dslots≤(s.blocks-1))) _ (Nat.le_trans hBw b2.size) hBo a7 rfl e5) ?_
 rintro _ g1 ⟨g0,rfl,d0,a2,d1⟩
 have b1:=b0.only a2 (by decide)
 refine xb 22 4 b1 ?_
 have a8:=a7.only a2 (by decide)
 refine xb 9 4 a8 ?_
 refine xw 0 (s.blocks-1) ?_
 have b8:=b2.trans d0
 refine xc 0 (args:=#[.pointer (some ⟨bs,9,none⟩),V0 1,V0 (s.blocks-1),P0 bo]) (Qd B bs bo 9 _ s.mindex 1 (s.blocks-1) (((((((((true&&decide ((0:Int)≤s.tx∧s.tx≤2147483647))&&decide ((0:Int)≤s.time∧s.time≤16777215))&&decide ((1:Int)≤s.unit∧s.unit≤65536))&&decide ((0:Int)≤s.data∧s.data≤65536))&&decide ((2:Int)≤s.blocks∧s.blocks≤14400))&&decide ((1:Int)≤s.top∧s.top≤(s.blocks-1)))&&decide ((1:Int)≤s.details∧s.details≤(s.blocks-1)))&&decide ((1:Int)≤s.dslots∧s.dslots≤(s.blocks-1)))&&decide ((1:Int)≤s.dover∧s.dover≤(s.blocks-1))) _ (Nat.le_trans hBw b8.size) hBo a8 rfl d1) ?_
 rintro _ g5 ⟨g2,rfl,c9,a4,d7⟩
 have d5:=b1.only a4 (by decide)
 refine xb 22 5 d5 ?_
 have a1:=a8.only a4 (by decide)
 refine xb 9 4 a1 ?_
 refine xw 0 (s.blocks-1) ?_
 have a0:=b8.trans c9
 refine xc 0 (args:=#[.pointer (some ⟨bs,10,none⟩),V0 1,V0 (s.blocks-1),P0 bo]) (Qd B bs bo 10 _ s.mover 1 (s.blocks-1) ((((((((((true&&decide ((0:Int)≤s.tx∧s.tx≤2147483647))&&decide ((0:Int)≤s.time∧s.time≤16777215))&&decide ((1:Int)≤s.unit∧s.unit≤65536))&&decide ((0:Int)≤s.data∧s.data≤65536))&&decide ((2:Int)≤s.blocks∧s.blocks≤14400))&&decide ((1:Int)≤s.top∧s.top≤(s.blocks-1)))&&decide ((1:Int)≤s.details∧s.details≤(s.blocks-1)))&&decide ((1:Int)≤s.dslots∧s.dslots≤(s.blocks-1)))&&decide ((1:Int)≤s.dover∧s.dover≤(s.blocks-1)))&&decide ((1:Int)≤s.mindex∧s.mindex≤(s.blocks-1))) _ (Nat.le_trans hBw a0.size) hBo a1 rfl d7) ?_
 rintro _ g3 ⟨g7,rfl,d9,d6,d3⟩
 have c0:=a0.trans d9
 have hO:=((((((((((((show Zd [4] w _ from e4).trans e1).trans e2).trans e3).trans e0).trans (Zd.of_below (Za W5))).trans (Zd.of_below n6.below)).trans d4).trans d2).trans d8).trans a2).trans a4).trans d6
 exact xe 19 (.tuple #[]) ⟨_,rfl,c0,hO,d3⟩
theorem Zc4(s:Sup)(w:World)(hb0:0≤s.blocks)(hb1:s.blocks<9223372036854775808) :
 C0 55 #[.agg #[V0 s.tx,V0 s.time,V0 s.unit,V0 s.data,V0 s.blocks,V0 s.top,V0 s.details,V0 s.dslots,V0 s.dover,V0 s.mindex,V0 s.mover]] w (Ret (.bool (Qh s)) w):=by
 refine zin 7 Tryz.func55 ?_
 refine xa 2 [V0 s.tx,V0 s.time,V0 s.unit,V0 s.data,V0 s.blocks,V0 s.top,V0 s.details,V0 s.dslots,V0 s.dover,V0 s.mindex,V0 s.mover] 30 fun b1 W1 n1=>?_
 refine xa 5 [.bool false] 4 fun b2 W2 n2=>?_
 refine xs 0 n2.blk [.bool true] fun W3 u3 k3=>?_
 have g2:=n2.ge n1.below
 have hB:=u3.below (bln n1.below n2.below) g2
 have k1:=u3.blkT (n1.blk.below n2.below) n2.blk (by decide)
 refine xc 5 (args:=#[P0 b1,.func (.func 98) #[] #[P0 b2]]) (Tl w.heap.size b1 b2 s _ hB.size g2 hb0 hb1 k1 k3) ?_
 rintro _ W4 ⟨u4,rfl,a2,a3,a1⟩
 refine xb 4 0 a1 ?_
 have a0:=hB.trans a2
 exact xe 4 (.bool (Qh s)) ⟨rfl,a0⟩
theorem Kf(B Bx bs bl off n:Nat)(cs:List Value)(x:Int)(lo hi:Value)(p:O0)(c:Nat)(N:List Int)(w:World)(hBm:B≤Bx)(hBx:Bx≤w.heap.size)(hBw:B≤w.heap.size)(hBl:B≤bl)(ks:Blk w bs cs 30)(hn:cs[off]? = some (V0 x))(kl:Blk w bl [.slice p n c] 236)(hup:w.ownsRow Bx 235 2 (.slice p n c) n (N.flatMap Ac))(hnn:n≤1000) :
 C0 130 #[.pointer (some ⟨bs,off,none⟩),lo,hi,P0 bl] w ((fun e w'=>∃ u p' c',e=.returned u∧Below B w w'∧Zd [236,235] w w'∧Blk w' bl [.slice p' (n+1) c'] 236∧w'.ownsRow Bx 235 2 (.slice p' (n+1) c') (n+1) ((N++[x]).flatMap Ac))):=by
 refine zin 14 Tryz.func130 ?_
 refine xd 0 (.t B [236,235]) ?_
 have a8:=ks.below (Za w)
 refine xlt (.e [1,2] 3) (.t B [236,235]) (fun V hV=>(a8.only hV.2 (by decide)).cell (i:=off) hn) ?_
 refine xm2 (.b [4]) 0 5 ?_ ?_
 ·have a7:=kl.below (Za w)
  refine xb 0 0 a7 ?_
  refine xbs (.o [] 5) 1 [V0 4,V0 x] 235 fun b1 W1 n1=>?_
  have a4:=Zb hup (Za w)
  have b2:=Zu a4 n1
  have a0:=Zb a4 n1.below
  have hB:=blB (blB (Below.refl B w) hBw (Za w)) hBw n1.below
  refine ybi (.o [] 6) (.t B [236,235]) fun _ _ _ _ zJ zQ zo zx zy zK=>Xd (m:=1) (news:=[V0 4,V0 x]) (.agg #[V0 0,V0 0]) 2 16 (n+1) (((N++[x]).flatMap Ac)) zo Tryz.underlying236 (by kernel_rfl) rfl (by decide) zx a0 zy (n1.blk.sl 1 1 (by decide) (by decide)) rfl (by simp[Value.oneCell']) (by unfold maxLen;omega) (by omega) (Nat.le_trans hBx hB.size) (by rfl) (by rw[List.flatMap_append];rfl) fun c3 c1 W2 o2 b0 c0=>?_
  refine zK _ _ (Xv (c0.mono hBm) b0 a0 (by decide)) ?_
  have a2:=(a7.below n1.below).grown b0 a0 (by decide)
  refine ys (.o [] 7) a2 [.slice c3 (n+1) c1] (.t B [236,235]) fun W3 u3 k3=>⟨(Zl u3 a2 hBl (by decide)),?_⟩
  have b3:=u3.below (hB.trans (c0.mono hBm)) hBl
  have hO:=(((show Zd [236,235] w _ from(Zd.of_below (Za w))).trans (Zd.of_below n1.below)).trans (Zd.of_grown b0 a0 (by decide))).trans (Zd.of_upd u3 a2 (by decide))
  have a9:=u3.own2 o2 a2 (by decide)
  exact xe 1 (.tuple #[]) ⟨_,_,_,rfl,b3,hO,k3,a9⟩
 refine xbs 0 1 [V0 4,V0 x] 235 fun b4 W4 n4=>?_
 have a5:=Zb hup (Za w)
 have b5:=Zu a5 n4
 have a6:=(kl.below (Za w)).below n4.below
 refine xb (.o [] 0) 0 a6 ?_
 have a1:=Zb a5 n4.below
 have hB:=blB (blB (Below.refl B w) hBw (Za w)) hBw n4.below
 refine ybi (.o [] 6) (.t B [236,235]) fun _ _ _ _ zJ zQ zo zx zy zK=>Xd (m:=1) (news:=[V0 4,V0 x]) (.agg #[V0 0,V0 0]) 2 16 (n+1) (((N++[x]).flatMap Ac)) zo Tryz.underlying236 (by kernel_rfl) rfl (by decide) zx a1 zy (n4.blk.sl 1 1 (by decide) (by decide)) rfl (by simp[Value.oneCell']) (by unfold maxLen;omega) (by omega) (Nat.le_trans hBx hB.size) (by rfl) (by rw[List.flatMap_append];rfl) fun c4 c2 W5 o5 b7 b9=>?_
 refine zK _ _ (Xv (b9.mono hBm) b7 a1 (by decide)) ?_
 have a3:=a6.grown b7 a1 (by decide)
 refine ys (.o [] 7) a3 [.slice c4 (n+1) c2] (.t B [236,235]) fun W6 u6 k6=>⟨(Zl u6 a3 hBl (by decide)),?_⟩
 have b6:=u6.below (hB.trans (b9.mono hBm)) hBl
 have hO:=(((show Zd [236,235] w _ from(Zd.of_below (Za w))).trans (Zd.of_below n4.below)).trans (Zd.of_grown b7 a1 (by decide))).trans (Zd.of_upd u6 a3 (by decide))
 have b8:=u6.own2 o5 a3 (by decide)
 exact xe 1 (.tuple #[]) ⟨_,_,_,rfl,b6,hO,k6,b8⟩
theorem Zcl(B Bx bs bl:Nat)(s:Sup)(p0:O0)(c0:Nat)(w:World)(hBm:B≤Bx)(hBx:Bx≤w.heap.size)(hBw:B≤w.heap.size)(hBl:B≤bl)(hb0:0≤s.blocks)(hb1:s.blocks<9223372036854775808)(ks:Blk w bs [V0 s.tx,V0 s.time,V0 s.unit,V0 s.data,V0 s.blocks,V0 s.top,V0 s.details,V0 s.dslots,V0 s.dover,V0 s.mindex,V0 s.mover] 30)(kl:Blk w bl [.slice p0 1 c0] 236)(hr0:w.ownsRow Bx 235 2 (.slice p0 1 c0) 1 ([1].flatMap Ac)) :
 C0 76 #[P0 bs,.func (.func 130) #[] #[P0 bl]] w ((fun e w'=>∃ u p c,e=.returned u∧Below B w w'∧Zd [236,235] w w'∧Blk w' bl [.slice p 12 c] 236∧w'.ownsRow Bx 235 2 (.slice p 12 c) 12 ((1::Im s).flatMap Ac))):=by
 refine zin 64 Tryz.func76 ?_
 refine xc 6 (args:=#[P0 bs,V0 0,V0 2147483647,P0 bl]) (Kf B Bx bs bl 0 1 _ s.tx _ _ p0 c0 [1] _ hBm (Nat.le_trans hBx (Below.refl B _).size) (Nat.le_trans hBw (Below.refl B _).size) hBl ks rfl kl hr0 (by decide)) ?_
 rintro _ W1 ⟨u1,p1,c1,rfl,hb1,h7,h5,i9⟩
 have h1:World.ownsRow _ _ _ _ (.slice p1 2 c1) 2 ([1,s.tx].flatMap Ac):=i9
 replace h5:Blk _ _ [.slice p1 2 c1] _:=h5
 have d4:=ks.only h7 (by decide)
 refine xc 8 (args:=#[.pointer (some ⟨bs,1,none⟩),V0 0,V0 16777215,P0 bl]) (Kf B Bx bs bl 1 2 _ s.time _ _ p1 c1 [1,s.tx] _ hBm (Nat.le_trans hBx hb1.size) (Nat.le_trans hBw hb1.size) hBl d4 rfl h5 h1 (by decide)) ?_
 rintro _ W2 ⟨u2,p2,c2,rfl,i6,h8,f6,j0⟩
 have f5:World.ownsRow _ _ _ _ (.slice p2 3 c2) 3 ([1,s.tx,s.time].flatMap Ac):=j0
 replace f6:Blk _ _ [.slice p2 3 c2] _:=f6
 have a3:=hb1.trans i6
 have d7:=d4.only h8 (by decide)
 refine xc 8 (args:=#[.pointer (some ⟨bs,2,none⟩),V0 1,V0 65536,P0 bl]) (Kf B Bx bs bl 2 3 _ s.unit _ _ p2 c2 [1,s.tx,s.time] _ hBm (Nat.le_trans hBx a3.size) (Nat.le_trans hBw a3.size) hBl d7 rfl f6 f5 (by decide)) ?_
 rintro _ W3 ⟨u3,p3,c3,rfl,j1,h6,h2,i3⟩
 have f4:World.ownsRow _ _ _ _ (.slice p3 4 c3) 4 ([1,s.tx,s.time,s.unit].flatMap Ac):=i3
 replace h2:Blk _ _ [.slice p3 4 c3] _:=h2
 have a5:=a3.trans j1
 have d3:=d7.only h6 (by decide)
 refine xc 8 (args:=#[.pointer (some ⟨bs,3,none⟩),V0 0,V0 65536,P0 bl]) (Kf B Bx bs bl 3 4 _ s.data _ _ p3 c3 [1,s.tx,s.time,s.unit] _ hBm (Nat.le_trans hBx a5.size) (Nat.le_trans hBw a5.size) hBl d3 rfl h2 f4 (by decide)) ?_
 rintro _ W4 ⟨u4,p4,c4,rfl,i5,i2,g8,i4⟩
 have f8:World.ownsRow _ _ _ _ (.slice p4 5 c4) 5 ([1,s.tx,s.time,s.unit,s.data].flatMap Ac):=i4
 replace g8:Blk _ _ [.slice p4 5 c4] _:=g8
 have b5:=a5.trans i5
 have d6:=d3.only i2 (by decide)
 refine xc 8 (args:=#[.pointer (some ⟨bs,4,none⟩),V0 2,V0 14400,P0 bl]) (Kf B Bx bs bl 4 5 _ s.blocks _ _ p4 c4 [1,s.tx,s.time,s.unit,s.data] _ hBm (Nat.le_trans hBx b5.size) (Nat.le_trans hBw b5.size) hBl d6 rfl g8 f8 (by decide)) ?_
 rintro _ W5 ⟨u5,p5,c5,rfl,j7,h9,g7,i7⟩
 have h4:World.ownsRow _ _ _ _ (.slice p5 6 c5) 6 ([1,s.tx,s.time,s.unit,s.data,s.blocks].flatMap Ac):=i7
 replace g7:Blk _ _ [.slice p5 6 c5] _:=g7
 refine xd 3 .z ?_
 refine xbs (.o [0,1,2,3,4,5,6,7,8,9,10,11,12,13,14,15,16,17,20] 18) 6 [.pointer (some ⟨bs,5,none⟩),.pointer (some ⟨bs,6,none⟩),.pointer (some ⟨bs,7,none⟩),.pointer (some ⟨bs,8,none⟩),.pointer (some ⟨bs,9,none⟩),.pointer (some ⟨bs,10,none⟩)] 168 fun b6 W6 n6=>?_
 have e2:=blB (b5.trans j7) hBw (Za W5)
 have g6:=n6.ge0 e2
 refine xu (.r [19] 3) 7 ?_
 refine xb 14 0 n6.blk ?_
 have d1:=((d6.only h9 (by decide)).below (Za W5)).below n6.below
 refine xb 9 4 d1 ?_
 refine xw 0 (s.blocks-1) ?_
 have b0:=blB e2 hBw n6.below
 have e1:=(g7.below (Za W5)).below n6.below
 have b4:=Zb (Zb h4 (Za W5)) n6.below
 refine xc 0 (args:=#[.pointer (some ⟨bs,5,none⟩),V0 1,V0 (s.blocks-1),P0 bl]) (Kf B Bx bs bl 5 6 _ s.top _ _ p5 c5 [1,s.tx,s.time,s.unit,s.data,s.blocks] _ hBm (Nat.le_trans hBx b0.size) (Nat.le_trans hBw b0.size) hBl d1 rfl e1 b4 (by decide)) ?_
 rintro _ W7 ⟨u7,p6,c6,rfl,j4,g3,f7,i8⟩
 have e7:World.ownsRow _ _ _ _ (.slice p6 7 c6) 7 ([1,s.tx,s.time,s.unit,s.data,s.blocks,s.top].flatMap Ac):=i8
 replace f7:Blk _ _ [.slice p6 7 c6] _:=f7
 have d8:=n6.blk.only g3 (by decide)
 refine xb 22 1 d8 ?_
 have a2:=d1.only g3 (by decide)
 refine xb 9 4 a2 ?_
 refine xw 0 (s.blocks-1) ?_
 have b1:=b0.trans j4
 refine xc 0 (args:=#[.pointer (some ⟨bs,6,none⟩),V0 1,V0 (s.blocks-1),P0 bl]) (Kf B Bx bs bl 6 7 _ s.details _ _ p6 c6 [1,s.tx,s.time,s.unit,s.data,s.blocks,s.top] _ hBm (Nat.le_trans hBx b1.size) (Nat.le_trans hBw b1.size) hBl a2 rfl f7 e7 (by decide)) ?_
 rintro _ W8 ⟨u8,p7,c7,rfl,j2,h3,f1,j5⟩
 have e6:World.ownsRow _ _ _ _ (.slice p7 8 c7) 8 ([1,s.tx,s.time,s.unit,s.data,s.blocks,s.top,s.details].flatMap Ac):=j5
 replace f1:Blk _ _ [.slice p7 8 c7] _:=f1
 have e0:=d8.only h3 (by decide)
 refine xb 22 2 e0 ?_
 have b3:=a2.only h3 (by decide)
 refine xb 9 4 b3 ?_
 refine xw 0 (s.blocks-1) ?_
 have a4:=b1.trans j2
 refine xc 0 (args:=#[.pointer (some ⟨bs,7,none⟩),V0 1,V0 (s.blocks-1),P0 bl]) (Kf B Bx bs bl 7 8 _ s.dslots _ _ p7 c7 [1,s.tx,s.time,s.unit,s.data,s.blocks,s.top,s.details] _ hBm (Nat.le_trans hBx a4.size) (Nat.le_trans hBw a4.size) hBl b3 rfl f1 e6 (by decide)) ?_
 rintro _ W9 ⟨u9,p8,c8,rfl,j8,g9,g2,j3⟩
 have h0:World.ownsRow _ _ _ _ (.slice p8 9 c8) 9 ([1,s.tx,s.time,s.unit,s.data,s.blocks,s.top,s.details,s.dslots].flatMap Ac):=j3
 replace g2:Blk _ _ [.slice p8 9 c8] _:=g2
 have d5:=e0.only g9 (by decide)
 refine xb 22 3 d5 ?_
 have b7:=b3.only g9 (by decide)
 refine xb 9 4 b7 ?_
 refine xw 0 (s.blocks-1) ?_
 have a9:=a4.trans j8
 refine xc 0 (args:=#[.pointer (some ⟨bs,8,none⟩),V0 1,V0 (s.blocks-1),P0 bl]) (Kf B Bx bs bl 8 9 _ s.dover _ _ p8 c8 [1,s.tx,s.time,s.unit,s.data,s.blocks,s.top,s.details,s.dslots] _ hBm (Nat.le_trans hBx a9.size) (Nat.le_trans hBw a9.size) hBl b7 rfl g2 h0 (by decide)) ?_
 rintro _ k1 ⟨j9,p9,c9,rfl,g1,a8,b9,j6⟩
 have f3:World.ownsRow _ _ _ _ (.slice p9 10 c9) 10 ([1,s.tx,s.time,s.unit,s.data,s.blocks,s.top,s.details,s.dslots,s.dover].flatMap Ac):=j6
 replace b9:Blk _ _ [.slice p9 10 c9] _:=b9
 have d2:=d5.only a8 (by decide)
 refine xb 22 4 d2 ?_
 have b8:=b7.only a8 (by decide)
 refine xb 9 4 b8 ?_
 refine xw 0 (s.blocks-1) ?_
 have b2:=a9.trans g1
 refine xc 0 (args:=#[.pointer (some ⟨bs,9,none⟩),V0 1,V0 (s.blocks-1),P0 bl]) (Kf B Bx bs bl 9 10 _ s.mindex _ _ p9 c9 [1,s.tx,s.time,s.unit,s.data,s.blocks,s.top,s.details,s.dslots,s.dover] _ hBm (Nat.le_trans hBx b2.size) (Nat.le_trans hBw b2.size) hBl b8 rfl b9 f3 (by decide)) ?_
 rintro _ k3 ⟨k2,f2,g0,rfl,f9,d0,a7,e9⟩
 have e3:World.ownsRow _ _ _ _ (.slice f2 11 g0) 11 ([1,s.tx,s.time,s.unit,s.data,s.blocks,s.top,s.details,s.dslots,s.dover,s.mindex].flatMap Ac):=e9
 replace a7:Blk _ _ [.slice f2 11 g0] _:=a7
 have g5:=d2.only d0 (by decide)
 refine xb 22 5 g5 ?_
 have a1:=b8.only d0 (by decide)
 refine xb 9 4 a1 ?_
 refine xw 0 (s.blocks-1) ?_
 have a0:=b2.trans f9
 refine xc 0 (args:=#[.pointer (some ⟨bs,10,none⟩),V0 1,V0 (s.blocks-1),P0 bl]) (Kf B Bx bs bl 10 11 _ s.mover _ _ f2 g0 [1,s.tx,s.time,s.unit,s.data,s.blocks,s.top,s.details,s.dslots,s.dover,s.mindex] _ hBm (Nat.le_trans hBx a0.size) (Nat.le_trans hBw a0.size) hBl a1 rfl a7 e3 (by decide)) ?_
 rintro _ k0 ⟨k4,i0,i1,rfl,f0,e8,a6,e5⟩
 have e4:World.ownsRow _ _ _ _ (.slice i0 12 i1) 12 ([1,s.tx,s.time,s.unit,s.data,s.blocks,s.top,s.details,s.dslots,s.dover,s.mindex,s.mover].flatMap Ac):=e5
 replace a6:Blk _ _ [.slice i0 12 i1] _:=a6
 have d9:=a0.trans f0
 have hO:=((((((((((((show Zd [236,235] w _ from h7).trans h8).trans h6).trans i2).trans h9).trans (Zd.of_below (Za W5))).trans (Zd.of_below n6.below)).trans g3).trans h3).trans g9).trans a8).trans d0).trans e8
 exact xe 19 (.tuple #[]) ⟨_,_,_,rfl,d9,hO,a6,e4⟩
inductive Tr where
 | no
 | bad (fl:List Int) (c:Int)
 | val (s:List UInt8)
def trC (ks:List Int)(key:Int):Nat:=ks.countP (fun k=>decide (k≤key))
def trV (l:Bl)(no key:Int):Bl:=(Hz (inB l no) (Zt (inB l no))).getD (trC (Yo l no) key-1) []
def Zp(l:Bl)(tree key:Int):Nat→List Int→Int→List Int×Tr
 | 0,way,no=>(way,.bad (way++[no]) 10)
 | d+1,way,no =>
  if Xc l no tree≠0 then(way,.bad (way++[no]) (Xc l no tree)) else
  if trC (Yo l no) key=0 then(way++[no],.no) else
  if Xp (inB l no)=true then(if key∈Yo l no then(way++[no],.val (trV l no key)) else(way++[no],.no)) else
  if Xj (trV l no key)≠0 then(way++[no],.bad (way++[no]) (Xj (trV l no key))) else Zp l tree key d (way++[no]) (Xm (trV l no key):Int)
def trE (g:Bl→Int):List Int×Tr→List Int×Int
 | (_,.no)=>([],0)
 | (_,.bad fl c)=>(fl,c)
 | (w,.val s)=>if g s≠0 then(w,g s) else([],0)
def trS:List Int×Tr→Bl
 | (_,.val s)=>s
 | _=>[]
def Tk:List Int×Tr→Bool
 | (_,.val _)=>true
 | _=>false
theorem tr_pair{ks:List Int}(h:Jf ks):ks.Pairwise (·<·):=by
  rw[List.pairwise_iff_getElem]
  intro i j hi hj a0
  have st:∀ d,i+d+1<ks.length→ks[i]?.getD 0<ks[i+d+1]?.getD 0:=by
    intro d
    induction d with
    | zero=>intro hd;have:=h (i+0+1) hd (by omega);simpa using this
    | succ d ih=>intro hd;have h1:=ih (by omega);have h2:=h (i+(d+1)+1) hd (by omega);rw[show i+(d+1)+1-1=i+d+1 by omega] at h2;omega
  have:=st (j-i-1) (by omega)
  rw[show i+(j-i-1)+1=j by omega] at this
  simpa [hi,hj] using this
theorem Lk{l:Bl}{no tree:Int}(h:Xc l no tree=0):(Yo l no).Pairwise (·<·):=tr_pair (nodK_sort h)
theorem En(l:Bl)(no:Int):(Yo l no).length=Zt (inB l no):=Hx _ _
theorem Zbs(ks:List Int)(key:Int):trC ks key≤ks.length:=List.countP_le_length
theorem trC_lt{ks:List Int}(h:ks.Pairwise (·<·))(key:Int):trC ks key=ks.countP (fun k=>decide (k<key))+(if key∈ks then 1 else 0):=by
  unfold trC
  induction ks with
  | nil=>simp
  | cons a t ih =>
    rw[List.pairwise_cons] at h
    rw[List.countP_cons,List.countP_cons,ih h.2]
    by_cases e:a=key
    · subst e
      have hn:a∉t:=fun q=>absurd (h.1 a q) (by omega)
      simp[hn]
    · have h1:(key∈a::t)↔key∈t:=by simp[List.mem_cons,Ne.symm e]
      have h2:decide (a≤key)=decide (a<key):=by simp only[decide_eq_decide];omega
      simp only[h1,h2];omega
theorem Zgw{ks:List Int}(h:ks.Pairwise (·<·)){key:Int}{i:Nat}(hi:i<ks.length):ks[i]≤key↔i<trC ks key:=by
  unfold trC
  induction ks generalizing i with
  | nil=>simp at hi
  | cons a t ih =>
    rw[List.pairwise_cons] at h
    rw[List.countP_cons]
    cases i with
    | zero =>
      simp only[List.getElem_cons_zero]
      constructor
      · intro q;simp[q]
      · intro q
        by_cases e:a≤key
        · exact e
        · have:t.countP (fun k=>decide (k≤key))=0:=by
            rw[List.countP_eq_zero];intro x hx;have:=h.1 x hx;simp;omega
          rw[this] at q;simp[e] at q
    | succ i =>
      simp only[List.getElem_cons_succ]
      have a0:i<t.length:=by simpa using hi
      rw[ih h.2 a0]
      by_cases e:a≤key
      · simp[e]
      · have:t.countP (fun k=>decide (k≤key))=0:=by
          rw[List.countP_eq_zero];intro x hx;have:=h.1 x hx;simp;omega
        simp[e,this]
theorem trC_mem{ks:List Int}(h:ks.Pairwise (·<·)){key:Int}(h0:0<trC ks key):key∈ks↔ks.getD (trC ks key-1) 0=key:=by
  have hl:=Zbs ks key
  have hi:trC ks key-1<ks.length:=by omega
  have e:ks.getD (trC ks key-1) 0=ks[trC ks key-1]:=by simp[List.getD,hi]
  rw[e]
  have h1:=(Zgw h hi (key:=key)).2 (by omega)
  constructor
  · intro q
    obtain⟨j,hj,e2⟩:=List.mem_iff_getElem.1 q
    have h2:=(Zgw h hj (key:=key)).1 (by omega)
    by_cases e3:j=trC ks key-1
    · subst e3;exact e2
    · have:=(List.pairwise_iff_getElem.1 h) j (trC ks key-1) hj hi (by omega);omega
  · intro q;rw[←q];exact List.getElem_mem _
theorem Zck{ks:List Int}{key:Int}(h0:trC ks key=0):key∉ks:=by
 unfold trC at h0
 rw[List.countP_eq_zero] at h0
 intro q;have:=h0 key q;simp at this
structure TrO where
 way:List Int
 found:Bool
 b:Int
 t:Int
 fl:List Int
 c:Int
def trBad(fl:List Int)(c:Int):TrO:=⟨[],false,0,0,fl,c⟩
def Wk(l:Bl)(way:List Int)(top id v:Int):TrO :=
 let r:=Zp l 1 id 16 way top
 if(trE Xj r).2≠0 then trBad (trE Xj r).1 (trE Xj r).2 else
 if Tk r=false then⟨r.1,false,0,0,[],0⟩ else
 let q:=Zp l 2 v 16 r.1 (Xm (trS r):Int)
 if(trE (Xk Vm) q).2≠0 then trBad (trE (Xk Vm) q).1 (trE (Xk Vm) q).2 else
 if Tk q=false then⟨q.1,false,0,0,[],0⟩ else⟨q.1,true,Uk (trS q),Pb (trS q),[],0⟩
def Gs(key:Int)(es:List Ent)(r:Tr):Prop:=(r=.no∧∀ x∈es,x.1≠key)∨∃ s a,r=.val s∧(key,s,a)∈es
theorem Gs.left{key:Int}{es es2:List Ent}{r:Tr}(h:Gs key es r)(h2:∀ x∈es2,x.1≠key):Gs key (es++es2) r:=by
 rcases h with ⟨h,k⟩|⟨s,a,h,k⟩
 ·exact .inl ⟨h,fun x hx=>(List.mem_append.1 hx).elim (k x) (h2 x)⟩
 ·exact .inr ⟨s,a,h,List.mem_append_left _ k⟩
theorem Gs.right{key:Int}{es es2:List Ent}{r:Tr}(h:Gs key es2 r)(h2:∀ x∈es,x.1≠key):Gs key (es++es2) r:=by
 rcases h with ⟨h,k⟩|⟨s,a,h,k⟩
 ·exact .inl ⟨h,fun x hx=>(List.mem_append.1 hx).elim (h2 x) (k x)⟩
 ·exact .inr ⟨s,a,h,List.mem_append_right _ k⟩
theorem look_way{l:Bl}{way:List Int}{no tree lo hi deep:Int}(h:Yk l way no tree lo hi deep=0):way.length<16:=by
 unfold Yk at h
 split at h
 ·cases h
 ·split at h
  ·cases h
  ·omega
theorem Aq{l:Bl}{tree key:Int}{d:Nat}{wy:List Int}{no:Int}(h:Xc l no tree=0):Zp l tree key (d+1) wy no =
 if trC (Yo l no) key=0 then(wy++[no],.no) else
 if Xp (inB l no)=true then(if key∈Yo l no then(wy++[no],.val (trV l no key)) else(wy++[no],.no)) else
 if Xj (trV l no key)≠0 then(wy++[no],.bad (wy++[no]) (Xj (trV l no key))) else Zp l tree key d (wy++[no]) (Xm (trV l no key):Int):=by
 rw[Zp,if_neg (by rw[h];decide)]
theorem leaf_find{l:Bl}{no tree key:Int}(hn:Xc l no tree=0)(hl:Xp (inB l no)=true)(d:Nat)(wy:List Int):Gs key (Ju (Yo l no) (Yx l no) no (Zt (inB l no))) (Zp l tree key (d+1) wy no).2:=by
 have hp:=Lk hn
 have hk:=En l no
 have a0:key∉Yo l no→∀ x∈Ju (Yo l no) (Yx l no) no (Zt (inB l no)),x.1≠key:=by
  intro hm x hx
  unfold Ju at hx
  obtain⟨j,hj,rfl⟩:=List.mem_map.1 hx
  have hj:j<(Yo l no).length:=by rw[hk];simpa using hj
  intro e
  apply hm
  rw[←e]
  simp[List.getD,hj]
 rw[Aq hn]
 split
 ·rename_i h0
  exact .inl ⟨rfl,a0 (Zck h0)⟩
 ·rename_i h0
  split
  ·rename_i hm
   refine .inr ⟨_,no,rfl,?_⟩
   have e:=(trC_mem hp (by omega)).1 hm
   have hc:=Zbs (Yo l no) key
   unfold Ju
   rw[List.mem_map]
   exact⟨trC (Yo l no) key-1,by rw[List.mem_range];omega,by rw[e];rfl⟩
  ·rename_i hm
   exact .inl ⟨rfl,a0 hm⟩
theorem Au(l:Bl)(tree fuel:Int):∀ (d:Nat) (way:List Int) (no lo hi:Int) (s:WS),1≤d→d+way.length=17→s.dry=false→(Zx l tree fuel d way no lo hi s).fs=s.fs →
    ∃ es,(Zx l tree fuel d way no lo hi s).es=s.es++es∧∀ key wy,Gs key es (Zp l tree key (d-1) wy no).2
  | 0,way,no,lo,hi,s,h,_,_,_=>absurd h (by omega)
  | d+1,way,no,lo,hi,s,_,hd,hs,hfs=>by
    unfold Zx at hfs ⊢
    split at hfs
    · rename_i hf
      simp[Qx] at hfs
    rename_i hf
    rw[if_neg hf]
    split at hfs
    · simp[Qx] at hfs
    rename_i he
    rw[if_neg he]
    have he:Yk l way no tree lo hi s.deep=0:=Decidable.not_not.1 he
    obtain⟨hn,a9,hc⟩:=Fc he
    have hw:=look_way he
    obtain⟨d',rfl⟩:∃ d',d=d'+1:=⟨d-1,by omega⟩
    split at hfs
    · rename_i hl
      rw[if_pos hl]
      exact⟨_,rfl,fun key wy=>leaf_find hn hl d' wy⟩
    rename_i hl
    rw[if_neg hl]
    have hk:=En l no
    have hp:=Lk hn
    have key:=Bm (V:=Zx l tree fuel (d'+1)) (l:=l) (way:=way) (no:=no) (hi:=hi) (s:={ s with looked:=s.looked+1,bs:=s.bs++[no] })
      (fun i t=>∃ fs,t.fs=s.fs++fs∧(fs=[]→t.dry=false∧∃ es,t.es=s.es++es∧∀ key,(0<trC (Yo l no) key→trC (Yo l no) key≤i→∀ wy,Gs key es (if Xj (trV l no key)≠0 then(wy,Tr.bad wy (Xj (trV l no key))) else Zp l tree key d' wy (Xm (trV l no key):Int)).2)∧(i<trC (Yo l no) key∨trC (Yo l no) key=0→∀ x∈es,x.1≠key)))
      ⟨[],by simp,fun _=>⟨hs,[],by simp,fun key=>⟨fun h1 h2=>absurd h1 (by omega),fun _ x hx=>by cases hx⟩⟩⟩ (Zt (inB l no)) ?_ ?_
    · obtain⟨fs,h1,h2⟩:=key
      have hz:fs=[]:=by rw[hfs] at h1;simpa using h1
      obtain⟨_,es,h3,h4⟩:=h2 hz
      refine⟨es,h3,fun key wy=>?_⟩
      have a7:=Zbs (Yo l no) key
      rw[Nat.add_sub_cancel,Aq hn]
      by_cases h0:trC (Yo l no) key=0
      · rw[if_pos h0];exact .inl ⟨rfl,(h4 key).2 (.inr h0)⟩
      · rw[if_neg h0,if_neg hl]
        exact(h4 key).1 (by omega) (by omega) (wy++[no])
    · rintro i t a2 a0 ⟨fs,h1,h2⟩
      have b4:=Ub a9 (i:=i) (by rw[hk];exact a2)
      have a5:i<(Yo l no).length:=by rw[hk];exact a2
      unfold Jq
      split
      · rename_i a8
        obtain⟨b1,b2,r⟩:=Mk l tree fuel (d'+1) (way++[no]) (Xm ((Yx l no).getD i []):Int) (Xt hi (Yo l no) i).1 (Xt hi (Yo l no) i).2 t a0
        refine⟨fs++b2,by rw[r.fsE,h1,List.append_assoc],fun hz=>?_⟩
        obtain⟨b0,b3⟩:=List.append_eq_nil_iff.1 hz
        subst b0 b3
        obtain⟨g1,es,g2,g3⟩:=h2 rfl
        obtain⟨a1,q1,q2⟩:=Au l tree fuel (d'+1) (way++[no]) (Xm ((Yx l no).getD i []):Int) (Xt hi (Yo l no) i).1 (Xt hi (Yo l no) i).2 t (by omega) (by simp;omega) a0 (by rw[r.fsE];simp)
        have e3:a1=b1:=List.append_cancel_left (q1.symm.trans r.esE)
        subst e3
        refine⟨?_,es++a1,by rw[q1,g2,List.append_assoc],fun key=>?_⟩
        · cases hq:(Zx l tree fuel (d'+1) (way++[no]) (Xm ((Yx l no).getD i []):Int) (Xt hi (Yo l no) i).1 (Xt hi (Yo l no) i).2 t).dry with
          | false=>rfl
          | true =>
           rcases r.dry.1 hq with q|⟨f,q,_⟩
           · rw[a0] at q;cases q
           · cases q
        have a4:=Zgw hp a5 (key:=key)
        have a3:∀ x∈a1,(Yo l no)[i]≤x.1:=fun x hx=>by
          have:=(r.rise.2 x hx).1
          simpa [Xt,a5] using this
        have a6:∀ h:i+1<(Yo l no).length,∀ x∈a1,x.1<(Yo l no)[i+1]:=fun h x hx=>by
          have:=(r.rise.2 x hx).2
          simpa [Xt,h] using this
        refine⟨fun p1 p2 wy=>?_,fun p x hx=>?_⟩
        · by_cases e:trC (Yo l no) key=i+1
          · have hv:trV l no key=(Yx l no).getD i []:=by unfold trV Yx;rw[e,Nat.add_sub_cancel]
            rw[hv,if_neg (by rw[a8];decide)]
            exact(q2 key wy).right ((g3 key).2 (.inl (by omega)))
          · refine((g3 key).1 p1 (by omega) wy).left fun x hx=>?_
            have:=a3 x hx
            have:¬ (Yo l no)[i]≤key:=fun q=>by have:=a4.1 q;omega
            omega
        · rcases List.mem_append.1 hx with q|q
          · exact(g3 key).2 (p.imp (fun h=>by omega) fun h=>h) x q
          · rcases p with p|p
            · have a7:=Zbs (Yo l no) key
              have h5:=a6 (by omega) x q
              have h6:=(Zgw hp (show i+1<(Yo l no).length by omega) (key:=key)).2 p
              omega
            · have h5:=a3 x q
              have:¬ (Yo l no)[i]≤key:=fun q=>by have:=a4.1 q;omega
              omega
      · refine⟨fs++[(way++[no],Xj ((Yx l no).getD i []))],by simp[Qx,h1],fun hz=>by simp at hz⟩
    · rintro i t a2 a0 ⟨fs,h1,h2⟩
      exact⟨fs,h1,fun hz=>by have:=(h2 hz).1;rw[a0] at this;cases this⟩
theorem Zc7{l:Bl}{root tree fuel:Int}(h:(Ze l root tree fuel).fs=[])(key:Int)(wy:List Int):Gs key (Ze l root tree fuel).es (Zp l tree key 16 wy root).2:=by
 obtain⟨es,h1,h2⟩:=Au l tree fuel 17 [] root 0 281474976710656 ws0 (by decide) rfl rfl h
 have h3:(Ze l root tree fuel).es=es:=by unfold Ze;rw[h1];simp[ws0]
 rw[h3];exact h2 key wy
theorem Sr(l:Bl)(tree key:Int):∀ (d:Nat) (wy:List Int) (no:Int),∃ t,(Zp l tree key d wy no).1=wy++t∧((∃ fl c,(Zp l tree key d wy no).2=.bad fl c)∨t≠[])
 | 0,wy,no=>⟨[],by simp[Zp],.inl ⟨_,_,rfl⟩⟩
 | d+1,wy,no=>by
  rw[Zp]
  split
  ·exact⟨[],by simp,.inl ⟨_,_,rfl⟩⟩
  split
  ·exact⟨[no],rfl,.inr (by simp)⟩
  split
  ·split
   ·exact⟨[no],rfl,.inr (by simp)⟩
   ·exact⟨[no],rfl,.inr (by simp)⟩
  split
  ·exact⟨[no],rfl,.inl ⟨_,_,rfl⟩⟩
  ·obtain⟨t,h1,h2⟩:=Sr l tree key d (wy++[no]) (Xm (trV l no key):Int)
   exact⟨[no]++t,by rw[h1,List.append_assoc],.inr (by simp)⟩
theorem ref01_Same(a b:O0)(ca cb:Nat)(l:List Int)(w:World)(ha:Ints w (.slice a l.length ca) l)(hb:Ints w (.slice b l.length cb) l) :
 C0 11 #[.slice a l.length ca,.slice b l.length cb] w (Ret (.bool true) w):=by
 have a5:=Sl.len ha
 refine zin 26 Tryz.func11 ?_
 refine xk 15 (show(((l.length:Int) != (l.length:Int)):Bool)=false from by simp) ?_
 have hB:=Below.refl w.heap.size w
 refine zl 9 26 (fun zm a3 V=>∃ (i:Nat),a3=[(0,.slice a l.length ca),(1,.slice b l.length cb),(5,V0 (i:Int))]∧zm=l.length-((i:Int)).toNat∧B3 w V∧i≤l.length) ⟨0,rfl,rfl,hB,Nat.zero_le _⟩ ?_
 rintro _ _ W1 ⟨i,rfl,rfl,a1,hi⟩ J1 a2 r1
 refine xid 9 ((i:Int)<(l.length:Int)) (fun a4=>?_) (fun a4=>?_)
 ·refine xd 5 .z ?_
  refine xx (.e [0,1] 2) _ l.length i 1 (Ints.elem ha (k:=i) (by omega)).1 ?_
  have a0:=bln a1 (Za W1)
  refine xl (.e [] 3) ((Ints.elem (ha.below a0) (k:=i) (by omega)).2) ?_
  refine xx (.e [4,5] 6) _ l.length i 1 (Ints.elem hb (k:=i) (by omega)).1 ?_
  refine xl (.e [] 7) ((Ints.elem (hb.below a0) (k:=i) (by omega)).2) ?_
  refine xk (.r [8] 2) (show(((l.getD i 0) != (l.getD i 0)):Bool)=false from by simp) ?_
  refine xwm 5 ((i:Int)+1) (↑(i+1):Int) ?_
  exact ze 2 (a2 _ _ _ ⟨i+1,rfl,rfl,a0,by omega⟩ (by omega))
 exact xe 11 (.bool true) ⟨rfl,a1⟩
theorem value_root(w:World) :
 C0 90 #[] w (Vo (fun w' r=>∃ b,r=.slice (S1 b) 1 1∧w.heap.size≤b∧Blk w' b [V0 4,V0 1,V0 14399] 268) w):=by
 refine zin 3 Tryz.func90 ?_
 refine xbs 8 1 [V0 4,V0 1,V0 14399] 268 fun b1 W1 n1=>?_
 have g1:=n1.ge (B4 w)
 exact xe 4 (.slice (S1 b1) 1 1) ⟨_,rfl,n1.below,_,rfl,g1,n1.blk⟩
theorem value_put1(gl gn:Nat)(n:Int)(h1:1≤n)(h2:n≤14399)(w:World)(hl:Blk w gl [V0 4,V0 1,V0 14399] 268)(hn:Blk w gn [V0 n] 3) :
 C0 157 #[.slice (S1 gl) 1 1,.slice (S1 gn) 1 1] w (Ret (.string ⟨(leB n 4).toArray⟩) w):=by
 have b6:=h1
 have b5:=h2
 clear h2
 refine zin 51 Tryz.func157 ?_
 refine xu 19 2 ?_
 refine xlv 15 hl.rp ?_
 refine xa 0 [V0 0,V0 0,V0 0] 268 fun b1 W1 n1=>?_
 have a7:=n1.ne hl
 refine xsv 1 n1.blk [V0 4,V0 1,V0 14399] fun W2 u2 k2=>?_
 have g1:=n1.ge (B4 w)
 refine xd 4 .z ?_
 have a0:=(u2.blkT (hn.below n1.below) n1.blk (by decide)).below (Za W2)
 refine xb (.e [0,1,2] 3) 0 a0 ?_
 have a1:=k2.below (Za W2)
 refine xb (.e [4] 5) 1 a1 ?_
 refine xgk (.b [6,7]) [23,24] (show(decide (n<(1:Int)):Bool)=false from decide_eq_false (by omega)) ?_
 refine xb (.e [8,9,10] 11) 0 a0 ?_
 refine xb (.e [12] 13) 2 a1 ?_
 refine xk (.r [14,15] 2) (show(decide (n>(14399:Int)):Bool)=false from decide_eq_false (by omega)) ?_
 refine xd 3 .z ?_
 have a5:=a1.below (Za W2.drew)
 refine xb (.e [0] 1) 0 a5 ?_
 have a4:=a0.below (Za W2.drew)
 refine xb (.e [2,3,4] 5) 0 a4 ?_
 refine xbs (.o [6] 7) 1 [V0 4,V0 n] 235 fun b4 W4 n4=>?_
 refine yc (.o [] 8) (args:=#[.slice (S1 b4) 1 1]) .z (Da b4 n (by omega) (by omega) _ n4.blk) ?_
 rintro _ W5 ⟨_,rfl,a6,p2,c2,rfl,h2⟩
 have a9:=(bln (bln (bln (u2.below n1.below g1) (Za W2)) (Za W2.drew)) n4.below).size
 refine⟨a6,?_⟩
 have o6:=World.ownsRow_nil W5 w.heap.size 5 1
 have a2:=Zh h2 a9
 have hB:=bln (bln (bln (bln (u2.below n1.below g1) (Za W2)) (Za W2.drew)) n4.below) a6
 refine xbi (.r [9,10,11,12,13] 5) fun _ _ _ _ zJ zQ zo zx zy zK=>Xd (m:=4) (news:=(leB n 4).map bv) (.int .u8 0) 1 1 (4) ((leB n 4).map bv) zo Tryz.underlying22 (by kernel_rfl) rfl (by decide) zx o6 zy (Zf a2) (by simp[Zj]) (Qn _) (by unfold maxLen;omega) (by omega) hB.size (by rfl) (by simp) fun b2 b0 W7 o7 b3 a8=>?_
 refine zK _ _ ?_
 refine xcv0 24 (fun _ _ _ zo zx=>Nc zo zx (Qu (Zf o7) (Zj _ _)) (Zj _ _) Tryz.underlying22 Tryz.underlying5 Tryz.underlying9) ?_
 have a3:=hB.trans a8
 exact xe 4 (.string ⟨(leB n 4).toArray⟩) ⟨rfl,a3⟩
theorem Ig(n:Int)(h1:1≤n)(h2:n≤14399)(w:World) :
 C0 110 #[V0 n] w (Ret (.string ⟨(leB n 4).toArray⟩) w):=by
 refine zin 7 Tryz.func110 ?_
 refine xc 7 (args:=#[]) (value_root _) ?_
 rintro _ W1 ⟨_,rfl,a2,gl,rfl,gg,kl⟩
 refine xbs 1 1 [V0 n] 3 fun b2 W2 n2=>?_
 have a0:=kl.below n2.below
 refine xr 0 (args:=#[.slice (S1 gl) 1 1,.slice (S1 b2) 1 1]) (value_put1 gl b2 n h1 h2 _ a0 n2.blk) fun W3 a1=>?_
 have hB:=bln (bln a2 n2.below) a1
 exact xe 4 (.string ⟨(leB n 4).toArray⟩) ⟨rfl,hB⟩
theorem Sts.cut{α:Type}{f:α→List Value}{m:Nat}{w:World}{b:O0}{c:Nat}{l:List α}(hm:∀ x,(f x).length=m)(h:Sts f w (.slice b l.length c) l)(k:Nat)(hk:k≤l.length):Sts f w (.slice (Wh b k c m) (l.drop k).length (c-k)) (l.drop k):=by
 have a3:(l.drop k).length=l.length-k:=by simp
 have a2:=Sl.cap h
 by_cases hkn:k=l.length
 ·refine .inl ⟨Wh b k c m,c-k,by rw[show(l.drop k).length=0 by omega],by omega,?_⟩
  rw[List.drop_eq_nil_of_le (by omega)];rfl
 rcases h with ⟨a',c',h1,h2,h3⟩|⟨g,a1,a4,h1,h2,h3,h4⟩
 ·omega
 ·simp only[Value.slice.injEq] at h1
  obtain⟨rfl,_,rfl⟩:=h1
  refine .inr ⟨g,a1+k*m,c-k,?_,by omega,by omega,fun j x hj=>?_⟩
  ·rw[Wh,if_neg (by omega)];simp[Addr.add]
  ·have a0:(l.drop k).flatMap f=(l.flatMap f).drop (k*m):=by
    conv=>rhs;rw[←List.take_append_drop k l,List.flatMap_append]
    rw[List.drop_left' (by rw[Fu hm,List.length_take,Nat.min_eq_left hk])]
   rw[a0,List.getElem?_drop] at hj
   have:=h4 _ _ hj
   rwa [←Nat.add_assoc] at this
theorem Al.only{B ba b g n c:Nat}{pa:O0}{ca f N k:Nat}{l:Bl}{w W:World}{T:List TypeId}(h:Al B ba b g n c pa ca f N k l w)(hO:Zd T w W)(hT:(T.contains 152||T.contains 59||T.contains 5||T.contains 3)=false):Al B ba b g n c pa ca f N k l W:=by
 simp only[Bool.or_eq_false_iff] at hT
 exact⟨h.blkA.only hO hT.1.1.1,h.blkI.only hO hT.1.1.2,Zi h.data hO hT.1.2,Zi h.nums hO hT.2⟩
def Xq(l:List Ent)(m i:Nat):List Ent:=(l.drop (i*m)).take m
def Ks(c:List Ent):List Int:=c.map (·.1)
def Ga(c:List Ent):List Bl:=c.map (·.2.1)
def Zfh(t:Int)(leaf:Bool)(m v:Nat)(c:List Ent):Bl:=Gc m v (Ko t leaf c.length m v) (Ks c) (Ga c) c.length
def Zbq(t:Int)(leaf:Bool)(m v:Nat)(l:List Ent)(q:Nat)(bs:Bl):Nat→Bl
 | 0=>bs
 | i+1=>Kn (Zbq t leaf m v l q bs i) ((q+i)*256) (Yf 2 ((q+i:Nat):Int) (Zfh t leaf m v (Xq l m i)))
def upX (l:List Ent)(m q i:Nat):Ent:=(((Xq l m i).getD 0 Zn).1,leB ((q+i:Nat):Int) 4,((q+i:Nat):Int))
def upE (l:List Ent)(m q j:Nat):List Ent:=(List.range j).map (upX l m q)
theorem upE_succ(l:List Ent)(m q j:Nat):upE l m q (j+1)=upE l m q j++[upX l m q j]:=by simp[upE,List.range_succ]
theorem Ye(l:List Ent)(m q j:Nat):(upE l m q j).length=j:=by simp[upE]
theorem Wq{l:List Ent}{m q j i:Nat}(h:i<j):(upE l m q j).getD i Zn=upX l m q i:=by simp[upE,List.getD,List.getElem?_range h]
theorem Bj(l:List Ent)(m i:Nat):(Xq l m i).length=Jg l.length m i:=by simp[Xq,Jg]
theorem Sa{l:List Ent}{m i j:Nat}(h:j<Jg l.length m i):(Xq l m i).getD j Zn=l.getD (i*m+j) Zn:=by
 unfold Jg at h
 simp[Xq,List.getD,List.getElem?_take_of_lt (show j<m by omega),List.getElem?_drop]
theorem Zbi{c:List Ent}{j:Nat}(h:j<c.length):(Ks c).getD j 0=(c.getD j Zn).1:=by simp[Ks,List.getD,h]
theorem valsE_get{c:List Ent}{j:Nat}(h:j<c.length):(Ga c).getD j []=(c.getD j Zn).2.1:=by simp[Ga,List.getD,h]
theorem Bh(c:List Ent):(Ks c).length=c.length:=by simp[Ks]
theorem Zc9(c:List Ent):(Ga c).length=c.length:=by simp[Ga]
theorem siz_lt{n m i:Nat}(hm:1≤m)(hn:1≤n)(h:i<ovN n m):i*m<n:=by
 unfold ovN at h
 rcases Nat.eq_zero_or_pos i with rfl|hi
 ·omega
 have h2:i<(n+m-1)/m:=by omega
 have h3:=(Nat.lt_div_iff_mul_lt (by omega)).1 h2
 omega
theorem Zak{t:Int}{leaf:Bool}{m v:Nat}{l:List Ent}(E:EntsOk v l)(h1:1≤t)(h2:t≤5)(hm:Qy t leaf=m)(hv:Ua t leaf=v)(hl:leaf=false→1≤l.length){i:Nat}(hi:i<ovN l.length m):NodeOk t leaf (Xq l m i).length m v (Ks (Xq l m i)) (Ga (Xq l m i)):=by
 have a5:=(Qv t leaf).1
 rw[hm] at a5
 have a0:=Bj l m i
 have a6:=siz_le a5 hi
 have a7:(Xq l m i).length≤l.length-i*m:=by rw[a0];unfold Jg;omega
 have a4:∀ j,j<(Xq l m i).length→i*m+j<l.length∧(Ks (Xq l m i)).getD j 0=(l.getD (i*m+j) Zn).1∧(Ga (Xq l m i)).getD j []=(l.getD (i*m+j) Zn).2.1:=fun j hj=>by
  refine⟨by omega,?_,?_⟩
  ·rw[Zbi hj,Sa (by omega)]
  ·rw[valsE_get hj,Sa (by omega)]
 refine⟨h1,h2,hm,hv,Bh _,Zc9 _,by rw[a0];unfold Jg;omega,fun h=>?_,fun j hj=>?_,fun j hj=>?_,fun j hj=>?_⟩
 ·have:=siz_lt a5 (hl h) hi
  rw[a0];unfold Jg;omega
 ·obtain⟨a1,a2,_⟩:=a4 j hj
  rw[a2];exact E.hk _ a1
 ·obtain⟨a1,a2,_⟩:=a4 j (by omega)
  obtain⟨b1,b2,_⟩:=a4 (j+1) hj
  rw[a2,b2];exact E.hs _ (by omega)
 ·obtain⟨a1,_,a3⟩:=a4 j hj
  rw[a3];exact E.hw _ a1
theorem Eo{t:Int}{leaf:Bool}{m v:Nat}{c:List Ent}(N:NodeOk t leaf c.length m v (Ks c) (Ga c)):(Zfh t leaf m v c).length=244:=by
 have hf:=fitN t leaf
 rw[N.hm,N.hv] at hf
 exact Ff (Kj _ _ _ _ _) hf N.hn (fun j hj=>N.hw j hj)
theorem Zf6{w:World}{b:O0}{n m c:Nat}(h:Sl w (.slice b (ovN n m) c) (ovN n m) ((sizL n m).map nv)){k:Nat}(hk:k<ovN n m):b.isSome=true∧w.cell? (Zo b (k*1))=some (V0 ((Jg n m k:Nat):Int)):=by
 have:=Xb h (sizL_len n m) hk
 rwa [show(sizL n m).getD k 0=Jg n m k from by simp[sizL,List.getD,List.getElem?_range hk]] at this
theorem keys_take{l:List Ent}{j:Nat}(h:j<l.length):((Ks l).take (j+1)).map V0=((Ks l).take j).map V0++[V0 (l.getD j Zn).1]:=by
 rw[List.take_succ_eq_append_getElem (by rw[Bh];exact h)]
 simp[Ks,List.getD,h]
theorem vals_take{l:List Ent}{j:Nat}(h:j<l.length):((Ga l).take (j+1)).map sv=((Ga l).take j).map sv++[.string ⟨(l.getD j Zn).2.1.toArray⟩]:=by
 rw[List.take_succ_eq_append_getElem (by rw[Zc9];exact h)]
 simp[Ga,List.getD,h,sv]
theorem keys_chunk{l:List Ent}{m i s:Nat}(hs:Jg l.length m i=s):(Ks (l.drop (i*m))).take s=Ks (Xq l m i):=by
 subst hs
 unfold Ks Xq Jg
 rw[←List.map_take]
 congr 1
 rw[List.take_eq_take_iff];simp
theorem vals_chunk{l:List Ent}{m i s:Nat}(hs:Jg l.length m i=s):(Ga (l.drop (i*m))).take s=Ga (Xq l m i):=by
 subst hs
 unfold Ga Xq Jg
 rw[←List.map_take]
 congr 1
 rw[List.take_eq_take_iff];simp
theorem EntsOk.mono{v:Nat}{l:List Ent}(E:EntsOk v l):∀ {a b:Nat},a<b→b<l.length→(l.getD a Zn).1<(l.getD b Zn).1:=by
 intro a b h hb
 induction b with
 | zero=>omega
 | succ b ih =>
  have h1:=E.hs b (by omega)
  rcases Nat.lt_or_ge a b with h2|h2
  ·have:=ih h2 (by omega);omega
  ·obtain rfl:a=b:=by omega
   exact h1
theorem up_key{v:Nat}{l:List Ent}{m:Nat}(hm:1≤m)(hl:1≤l.length){i q:Nat}(hi:i<ovN l.length m):(upX l m q i).1=(l.getD (i*m) Zn).1∧i*m<l.length:=by
 have h:=siz_lt hm hl hi
 refine⟨?_,h⟩
 unfold upX
 rw[Sa (by unfold Jg;omega)];rfl
theorem up_ok{v:Nat}{l:List Ent}(E:EntsOk v l){m q:Nat}(hm:1≤m):EntsOk 4 (upE l m q (ovN l.length m)):=by
 rcases Nat.eq_zero_or_pos l.length with h0|hl
 ·have h1:ovN l.length m=1:=by
   rw[h0];unfold ovN
   have:(0+m-1)/m=0:=Nat.div_eq_of_lt (by omega)
   omega
  have a0:l=[]:=List.eq_nil_of_length_eq_zero h0
  subst a0
  constructor
  ·intro i hi;rw[Ye,h1] at hi;rw[Wq (by omega)];simp[upX,Xq,Zn]
  ·intro j hj;rw[Ye,h1] at hj;omega
  ·intro i hi;rw[Ye,h1] at hi;rw[Wq (by omega)];simp[upX,Zj]
 constructor
 ·intro i hi
  rw[Ye] at hi
  obtain⟨h1,h2⟩:=up_key (v:=v) (q:=q) hm hl hi
  rw[Wq hi,h1];exact E.hk _ h2
 ·intro j hj
  rw[Ye] at hj
  obtain⟨h1,h2⟩:=up_key (v:=v) (q:=q) hm hl hj
  obtain⟨h3,h4⟩:=up_key (v:=v) (q:=q) hm hl (show j<ovN l.length m by omega)
  rw[Wq hj,Wq (by omega),h1,h3]
  refine E.mono ?_ h2
  rw[Nat.add_mul];omega
 ·intro i hi
  rw[Ye] at hi
  rw[Wq hi];simp[upX,Zj]
def Pc(t:Int)(u:List Ent)(q:Nat)(bs:Bl):Int×Bl :=
 if h:u.length≤1 then((u.getD 0 Zn).2.2,bs)
 else Pc t (upE u 18 q (ovN u.length 18)) (q+ovN u.length 18) (Zbq t false 18 4 u q bs (ovN u.length 18))
termination_by u.length
decreasing_by rw[Ye];have:=ov18 (x:=u.length) (by omega);omega
theorem Nd{t:Int}{u:List Ent}{q:Nat}{bs:Bl}(h:u.length≤1):Pc t u q bs=((u.getD 0 Zn).2.2,bs):=by rw[Pc];simp[h]
theorem Mc{t:Int}{u:List Ent}{q:Nat}{bs:Bl}(h:¬ u.length≤1):Pc t u q bs=Pc t (upE u 18 q (ovN u.length 18)) (q+ovN u.length 18) (Zbq t false 18 4 u q bs (ovN u.length 18)):=by rw[Pc];simp[h]
def Yz(t:Int)(l:List Ent)(q:Nat)(bs:Bl):Int×Bl :=
 Pc t (upE l (Qy t true) q (ovN l.length (Qy t true))) (q+ovN l.length (Qy t true)) (Zbq t true (Qy t true) (Ua t true) l q bs (ovN l.length (Qy t true)))
theorem Zdg{t:Int}{u:List Ent}{q:Nat}{bs:Bl}(h1:1≤u.length)(hu:(u.getD (u.length-1) Zn).2.2=((q-1:Nat):Int))(hq:1≤q):(Pc t u q bs).1=((q-1+((Za3 u.length).sum-u.length):Nat):Int):=by
 induction hx:u.length using Nat.strongRecOn generalizing u q bs with
 | _ x ih =>
  subst hx
  by_cases h:u.length≤1
  ·rw[Nd h,Gh h]
   rw[show u.length-1=0 by omega] at hu
   show(u.getD 0 Zn).2.2=_
   rw[hu];simp
  ·have a0:=ov18 (x:=u.length) (by omega)
   have hp:=Kg u.length 18
   rw[Mc h,ih (ovN u.length 18) (by omega) (u:=upE u 18 q (ovN u.length 18)) (q:=q+ovN u.length 18) (by rw[Ye];exact hp) ?_ (by omega) (Ye _ _ _ _),Hq h]
   ·have a1:=Mn (ovN u.length 18)
    simp only[List.sum_cons]
    congr 1
    omega
   ·rw[Ye,Wq (by omega)]
    simp only[upX]
    congr 1
    omega
def LaidQ(B ba b g n c:Nat)(pa:O0)(ca f N k:Nat)(l:Bl)(kind:Int)(li:Bl)(q:Nat)(w:World)(e:Ending)(w':World):Prop :=
 e=.returned (.tuple #[V0 (q:Int),.nilIface])∧Below B w w'∧Zd [152,5] w w'∧Fr [ba,g] w w'∧Al B ba b g n c pa ca f N (k+1) (Kn l (q*256) (Yf kind (q:Int) li)) w'
theorem Pp(B ba b g n c:Nat)(p:O0)(ca f N k:Nat)(l:Bl)(kind:Int)(a:O0)(ci:Nat)(li:Bl)(q n':Nat)(w:World)(hq:f+k=q)(hn':li.length=n')(hC:AlC B ba n c ca f N)(hA:Al B ba b g n c p ca f N k l w)(hkN:k<N)(h1:1≤kind)(h2:kind≤4)(hin:∀ W,Below B w W→Zd [152] w W→Bys W (.slice a n' ci) li)(hl:n'≤244)(hBw:B≤w.heap.size) :
 C0 128 #[P0 ba,V0 kind,.slice a n' ci] w (LaidQ B ba b g n c p ca f N k l kind li q w):=by
 subst hq hn';exact alloc_Lay B ba b g n c p ca f N k l kind a ci li w hC hA hkN h1 h2 hin hl hBw
theorem up_row{l:List Ent}{m q i:Nat}{key:Int}(hk:key=((Xq l m i).getD 0 Zn).1):(upE l m q i).flatMap Qz++[V0 key,.string ⟨(leB ((q+i:Nat):Int) 4).toArray⟩,V0 ((q+i:Nat):Int)]=(upE l m q (i+1)).flatMap Qz:=by
 subst hk;rw[upE_succ];simp[Qz,upX]
theorem chunk_key{l:List Ent}{m i j:Nat}(hs:Jg l.length m i=j)(hj:0<j):((Ks (Xq l m i))).getD 0 0=((Xq l m i).getD 0 Zn).1:=Zbi (by rw[Bj];omega)
theorem Zfo{l:List Ent}{m i j:Nat}(hs:Jg l.length m i=j)(hj:j=0):(0:Int)=((Xq l m i).getD 0 Zn).1:=by
 have:Xq l m i=[]:=List.eq_nil_of_length_eq_zero (by rw[Bj];omega)
 rw[this];rfl
theorem ImgR.mono{B B' b:Nat}{p:O0}{n c:Nat}{l:Bl}{w:World}(h:ImgR B b p n c l w)(hB:B'≤B):ImgR B' b p n c l w:=⟨h.blk,Zh h.row hB,h.hn⟩
theorem image_OfR(a:O0)(c n m:Nat)(l:Bl)(w:World)(hn:l.length=n)(hm:min (n/256) 14400*256=m)(h:Bys w (.slice a n c) l)(hl:n≤100000000)(hc:n≤c) :
 C0 6 #[.slice a n c] w (Vo (fun w' r=>∃ b p c2,r=P0 b∧w.heap.size≤b∧ImgR w.heap.size b p m c2 (l.take m) w') w):=by
 subst hn hm
 refine(image_Of a c l w h hl hc).mono ?_
 rintro e W ⟨_,rfl,hb,b,p,c2,rfl,h1,h2,h3⟩
 exact⟨_,rfl,hb,b,p,c2,rfl,h1,h2,h3,by omega⟩
def WroteR(B b:Nat)(p:O0)(n c:Nat)(l:Bl)(w:World)(e:Ending)(w':World):Prop :=
 e=.returned .nilIface∧Below B w w'∧Zd [5] w w'∧ImgR B b p n c l w'
theorem Wv(B b:Nat)(p:O0)(n c k:Nat)(ki:Int)(l:Bl)(kind:Int)(a:O0)(ca m:Nat)(li:Bl)(w:World)(hki:ki=(k:Int))(hm:li.length=m)(hI:ImgR B b p n c l w)(hk:k<n/256)(h1:1≤kind)(h2:kind≤4)(hin:Bys w (.slice a m ca) li)(hl:m≤244)(hBw:B≤w.heap.size) :
 C0 72 #[P0 b,V0 ki,V0 kind,.slice a m ca] w (WroteR B b p n c (Kn l (k*256) (Yf kind k li)) w):=by
 subst hki hm
 obtain⟨g,rfl,hc⟩:=hI.base (by omega)
 refine(Fj B b g n c k l kind a ca li w hI.blk hI.row hI.hn hc hk h1 h2 hin hl hBw).mono ?_
 rintro e W ⟨rfl,hb,hO,_,ho⟩
 exact⟨rfl,hb,hO,hI.blk.only hO (by decide),ho,hI.hn⟩
theorem Jy.at{w:World}:∀ {fs:List (List Int×Int)} {vs:List Value},Jy w fs vs→∀ {j:Nat},j<fs.length→∃ ty x,vs[j]? = some (.iface ty x)∧Va w ((fs.getD j ([],0)).1.map some) (some (fs.getD j ([],0)).2) (.iface ty x)
 | f::r,v::q,h,0,_=>by
  obtain⟨ty,x,rfl⟩:=h.1.iface
  exact⟨ty,x,rfl,h.1⟩
 | f::r,v::q,h,j+1,hj=>by
  obtain⟨ty,x,h1,h2⟩:=h.2.at (j:=j) (by simpa using hj)
  exact⟨ty,x,by simpa using h1,by simpa using h2⟩
 | [],_,_,j,hj=>absurd hj (by simp)
 | _::_,[],h,_,_=>h.elim
theorem Sl.elem1{w:World}{b:O0}{n c:Nat}{xs:List Value}(h:Sl w (.slice b n c) n xs){j:Nat}{x:Value}(hj:xs[j]? = some x):b.isSome=true∧w.cell? (Zo b (j*1))=some x:=by rw[Nat.mul_one];exact Sl.elem h hj
theorem scan_law(l:Bl)(root tree fuel:Int):(Ze l root tree fuel).looked≤fuel.toNat∧(Ze l root tree fuel).bs.length≤(Ze l root tree fuel).looked∧(∀ x∈(Ze l root tree fuel).es,InBlk l tree x) ∧
 (Ze l root tree fuel).es.Pairwise (fun x y=>x.1<y.1)∧∀ f∈(Ze l root tree fuel).fs,f.1≠[]∧f.1.getD 0 0=root:=by
 obtain⟨es,fs,h⟩:=Hh l root tree fuel
 have h1:(Ze l root tree fuel).es=es:=by rw[h.esE];rfl
 have h2:(Ze l root tree fuel).fs=fs:=by rw[h.fsE];rfl
 have h3:=h.blks
 refine⟨Ds _ _ _ _,by simpa [ws0] using h3,fun x hx=>h.inb x (h1▸hx),by rw[h1];exact h.rise.1,fun f hf=>?_⟩
 obtain⟨q1,q2,_⟩:=h.flt f (h2▸hf)
 refine⟨q2,?_⟩
 cases e:f.1 with
 | nil=>exact absurd e q2
 | cons a r=>rw[e] at q1;simpa using q1
structure WalkS(t:WS)(pe pb pf:Option Addr)(ce cb cf:Nat)(fv:List Value)(w:World):Prop where
 ents:Sts Qz w (.slice pe t.es.length ce) t.es
 blks:Ints w (.slice pb t.bs.length cb) t.bs
 flts:Sl w (.slice pf t.fs.length cf) t.fs.length fv
 fltv:Jy w t.fs fv
theorem WalkS.below{t:WS}{pe pb pf:O0}{ce cb cf:Nat}{fv:List Value}{w W:World}(h:WalkS t pe pb pf ce cb cf fv w)(hb:B3 w W):WalkS t pe pb pf ce cb cf fv W :=
 ⟨Sl.below h.ents hb,Sl.below h.blks hb,Sl.below h.flts hb,h.fltv.below hb⟩
def eL (S:WS):List (Option Int):=if S.fs=[] then [] else(S.fs.getD 0 ([],0)).1.map some
def eT (S:WS):Option Int:=if S.fs=[] then none else some (S.fs.getD 0 ([],0)).2
def Zc8(S:WS):WS:=if S.fs=[] then S else ws0
def Vp(S:WS):List Int×Int:=if S.fs=[] then([],0) else S.fs.getD 0 ([],0)
def FirstP(fs:List (List Int×Int))(w:World)(e:Ending)(w':World):Prop :=
 (fs=[]∧e=.returned .nilIface∧B3 w w')∨(fs≠[]∧∃ ty x,e=.returned (.iface ty x)∧B3 w w'∧Va w' ((fs.getD 0 ([],0)).1.map some) (some (fs.getD 0 ([],0)).2) (.iface ty x))
theorem Ef(p:O0)(n c:Nat)(fv:List Value)(ty:TypeId)(x:Value)(w:World)(hn:0<n)(hS:Sl w (.slice p n c) n fv)(hx:fv[0]? = some (.iface ty x)) :
 C0 81 #[.slice p n c] w (Ret (.iface ty x) w):=by
 refine zin 15 Tryz.func81 ?_
 refine xu 14 1 ?_
 refine xk 6 (show(decide ((0:Int)<(n:Int)):Bool)=true from decide_eq_true (by omega)) ?_
 refine xx 6 _ n 0 1 (Sl.elem1 hS hx).1 ?_
 refine xl 0 ((Sl.elem1 hS hx).2) ?_
 exact xe 22 (.iface ty (x)) ⟨rfl,(B4 w)⟩
theorem Em(p:O0)(c:Nat)(w:World) :
 C0 81 #[.slice p 0 c] w (Ret .nilIface w):=by
 refine zin 15 Tryz.func81 ?_
 refine xu 14 1 ?_
 exact xe 18 .nilIface ⟨rfl,(B4 w)⟩
theorem Zbv(p:O0)(n c:Nat)(fs:List (List Int×Int))(fv:List Value)(w:World)(hn:fs.length=n)(hS:Sl w (.slice p n c) n fv)(hF:Jy w fs fv):C0 81 #[.slice p n c] w (FirstP fs w):=by
 subst hn
 match fs,hS,hF with
 | [],hS,hF =>
  refine(Em p c w).mono ?_
  rintro e W ⟨rfl,hb⟩
  exact .inl ⟨rfl,rfl,hb⟩
 | f::r,hS,hF =>
  obtain⟨ty,x,h1,h2⟩:=hF.at (j:=0) (by simp)
  refine(Ef p _ c fv ty x w (by simp) hS h1).mono ?_
  rintro e W ⟨rfl,hb⟩
  exact .inr ⟨by simp,ty,x,rfl,hb,h2.below hb⟩
theorem WalkV.mono{B B':Nat}{t:WS}{pe pb pf:O0}{ce cb cf:Nat}{fv:List Value}{w:World}(h:WalkV B t pe pb pf ce cb cf fv w)(hB:B'≤B):WalkV B' t pe pb pf ce cb cf fv w:=⟨Zh h.ents hB,Zh h.blks hB,Zh h.flts hB,h.fltv⟩
theorem WalkV.below{B:Nat}{t:WS}{pe pb pf:O0}{ce cb cf:Nat}{fv:List Value}{w W:World}(h:WalkV B t pe pb pf ce cb cf fv w)(hb:B3 w W):WalkV B t pe pb pf ce cb cf fv W:=⟨Zb h.ents hb,Zb h.blks hb,Zb h.flts hb,h.fltv.below hb⟩
theorem WalkV.only{B:Nat}{T:List TypeId}{t:WS}{pe pb pf:O0}{ce cb cf:Nat}{fv:List Value}{w W:World}(h:WalkV B t pe pb pf ce cb cf fv w)(hO:Zd T w W)(hT:T.contains 122=false∧T.contains 3=false∧T.contains 32=false∧T.contains 258=false):WalkV B t pe pb pf ce cb cf fv W:=⟨Zi h.ents hO hT.1,Zi h.blks hO hT.2.1,Zi h.flts hO hT.2.2.1,h.fltv.only hO hT.2.2.2⟩
theorem WalkV.s{B:Nat}{t:WS}{pe pb pf:O0}{ce cb cf:Nat}{fv:List Value}{w:World}(h:WalkV B t pe pb pf ce cb cf fv w):WalkS t pe pb pf ce cb cf fv w:=⟨Zf h.ents,Zf h.blks,Zf h.flts,h.fltv⟩
theorem WalkV.zero(B:Nat)(w:World):WalkV B ws0 none none none 0 0 0 [] w:=⟨World.ownsRow_nil _ _ _ _,World.ownsRow_nil _ _ _ _,World.ownsRow_nil _ _ _ _,trivial⟩
theorem Zgq{S:WS}(h:S.fs=[]):Zc8 S=S∧Vp S=([],0)∧eL S=[]∧eT S=none:=by unfold Zc8 Vp eL eT;simp[h]
theorem Ru{S:WS}(h:S.fs≠[]):Zc8 S=ws0∧Vp S=S.fs.getD 0 ([],0)∧eL S=(S.fs.getD 0 ([],0)).1.map some∧eT S=some (S.fs.getD 0 ([],0)).2:=by unfold Zc8 Vp eL eT;simp[h]
def WholeP(S:WS)(w:World)(e:Ending)(w':World):Prop:=∃ t pe pb pf ce cb cf fv v,t=Zc8 S∧e=.returned (.tuple #[.agg (walkC t pe pb pf ce cb cf).toArray,v])∧B3 w w'∧WalkV w.heap.size t pe pb pf ce cb cf fv w'∧Va w' (eL S) (eT S) v
theorem Zd9(Bi b:Nat)(pi:O0)(ni ci:Nat)(l:Bl)(root tree fuel:Int)(w:World)(hfu:fuel≤1000000)(hI:ImgR Bi b pi ni ci l w) :
 C0 43 #[P0 b,V0 root,V0 tree,V0 fuel] w (WholeP (Ze l root tree fuel) w):=by
 refine zin 25 Tryz.func43 ?_
 refine xa 2 [S0,S0,V0 0,V0 0,S0] 108 fun b1 W1 n1=>?_
 have b5:=n1.below.size
 refine xc 9 (args:=#[P0 b,V0 root,V0 tree,V0 fuel]) (walk_Scan Bi b pi ni ci l root tree fuel _ hfu (hI.below n1.below)) ?_
 rintro _ W2 ⟨pe,pb,pf,ce,cb,cf,fv,rfl,b4,b6⟩
 have hW:=b6.mono b5
 refine xa 0 [S0,S0,V0 0,V0 0,S0] 108 fun b3 W3 n3=>?_
 have k1:=n1.blk.below b4
 have a1:=n3.ne k1
 have a2:=bln n1.below b4
 have g3:=n3.ge a2
 refine xsv 0 n3.blk [.slice pe ((Ze l root tree fuel).es.length) ce,.slice pb ((Ze l root tree fuel).bs.length) cb,V0 ((Ze l root tree fuel).deep),V0 (↑(Ze l root tree fuel).looked:Int),.slice pf ((Ze l root tree fuel).fs.length) cf] fun W4 u4 k4=>?_
 refine xb 6 4 k4 ?_
 have a4:=(hW.below n3.below).only (Zd.of_upd (T:=[108]) u4 n3.blk (by decide)) (by decide)
 refine xc 0 (args:=#[.slice pf ((Ze l root tree fuel).fs.length) cf]) (Zbv pf _ cf (Ze l root tree fuel).fs fv _ rfl (Zf a4.flts) a4.fltv) ?_
 rintro e W5 b7
 rcases b7 with ⟨hz,rfl,a3⟩|⟨hz,ty,x,rfl,a3,hv⟩
 ·have a0:=Zgq hz
  have a7:=k4.below a3
  refine xlv 14 a7.rp ?_
  have a5:=(u4.blk (k1.below n3.below) (Ne.symm (Ne.symm a1))).below a3
  refine xsv 0 a5 [.slice pe ((Ze l root tree fuel).es.length) ce,.slice pb ((Ze l root tree fuel).bs.length) cb,V0 ((Ze l root tree fuel).deep),V0 (↑(Ze l root tree fuel).looked:Int),.slice pf ((Ze l root tree fuel).fs.length) cf] fun W6 u6 k6=>?_
  have g1:=n1.ge (B4 w)
  have b2:=u6.below (bln (u4.below (bln a2 n3.below) g3) a3) g1
  have a8:=(a4.below a3).only (Zd.of_upd (T:=[108]) u6 a5 (by decide)) (by decide)
  exact xec 4 k6 (.tuple #[.agg #[.slice pe ((Ze l root tree fuel).es.length) ce,.slice pb ((Ze l root tree fuel).bs.length) cb,V0 ((Ze l root tree fuel).deep),V0 (↑(Ze l root tree fuel).looked:Int),.slice pf ((Ze l root tree fuel).fs.length) cf],.nilIface]) ⟨_,pe,pb,pf,ce,cb,cf,fv,_,rfl,by rw[a0.1];rfl,b2,by rw[a0.1];exact a8,by rw[a0.2.2.1,a0.2.2.2];rfl⟩
 have a0:=Ru hz
 have a6:=(u4.blk (k1.below n3.below) (Ne.symm (Ne.symm a1))).below a3
 refine xsv 14 a6 [S0,S0,V0 0,V0 0,S0] fun W7 u7 k7=>?_
 have g1:=n1.ge (B4 w)
 have a9:=u7.below (bln (u4.below (bln a2 n3.below) g3) a3) g1
 have b0:=hv.upd u7 a6 (by decide)
 exact xec 5 k7 (.tuple #[.agg #[S0,S0,V0 0,V0 0,S0],.iface ty (x)]) ⟨_,none,none,none,0,0,0,[],_,rfl,by rw[a0.1];rfl,a9,by rw[a0.1];exact WalkV.zero _ _,by rw[a0.2.2.1,a0.2.2.2];exact b0⟩
def Zb7(x:Ent):Mp:=(x.1,(Uk x.2.1:Int),(Pb x.2.1:Int))
def Zcu(data:Int)(es:List Ent)(i:Nat):Prop:=∀ j,j<i→Ij data (es.getD j Zn).2.1=0
theorem Bz{data:Int}{es:List Ent}{i:Nat}(h:Zcu data es i)(h2:Ij data (es.getD i Zn).2.1=0):Zcu data es (i+1):=fun j hj=>by
 by_cases e:j=i
 ·subst e;exact h2
 ·exact h j (by omega)
def Tj(es:List Ent)(data:Int):List Int×Int×List Mp :=
 match (List.range es.length).find? (fun i=>Ij data (es.getD i Zn).2.1 != 0) with
 | some i=>([(es.getD i Zn).2.2],Ij data (es.getD i Zn).2.1,[])
 | none=>([],0,es.map Zb7)
theorem Re{es:List Ent}{data:Int}{i:Nat}(hi:i<es.length)(h:Zcu data es i)(hb:Ij data (es.getD i Zn).2.1≠0):Tj es data=([(es.getD i Zn).2.2],Ij data (es.getD i Zn).2.1,[]):=by
 unfold Tj
 rw[show(List.range es.length).find? (fun i=>Ij data (es.getD i Zn).2.1 != 0)=some i from by
  rw[List.find?_range_eq_some]
  exact⟨by simpa using hb,List.mem_range.2 hi,fun m hm=>by simpa using h m hm⟩]
theorem Ox{es:List Ent}{data:Int}(h:Zcu data es es.length):Tj es data=([],0,es.map Zb7):=by
 unfold Tj
 rw[show(List.range es.length).find? (fun i=>Ij data (es.getD i Zn).2.1 != 0)=none from by
  rw[List.find?_eq_none]
  intro i hi
  have:=h i (List.mem_range.1 hi)
  simpa using this]
def Zdr(l:Bl)(root data fuel:Int):List Int×Int×List Mp :=
 if(Ze l root 2 fuel).fs≠[] then((Vp (Ze l root 2 fuel)).1,(Vp (Ze l root 2 fuel)).2,[])
 else Tj (Ze l root 2 fuel).es data
theorem Fy{l:Bl}{root data fuel:Int}(h:(Ze l root 2 fuel).fs≠[]):Zdr l root data fuel=((Vp (Ze l root 2 fuel)).1,(Vp (Ze l root 2 fuel)).2,[]):=if_pos h
theorem Lm{l:Bl}{root data fuel:Int}(h:(Ze l root 2 fuel).fs=[]):Zdr l root data fuel=Tj (Ze l root 2 fuel).es data:=if_neg (fun q=>q h)
def Kz(l:Bl)(y:Ent)(data fuel:Int):List Int×Int×List Mp:=Zdr l (Xm y.2.1:Int) data fuel
def Di(l:Bl)(x y:Ent)(data fuel:Int)(sum:Nat):List Int×Int :=
 if 16777215<x.1 then([x.2.2],9)
 else if Xk Hm x.2.1≠0 then([x.2.2],Xk Hm x.2.1)
 else if Xj y.2.1≠0 then([y.2.2],Xj y.2.1)
 else if(Kz l y data fuel).2.1≠0 then(y.2.2::(Kz l y data fuel).1,(Kz l y data fuel).2.1)
 else if(Kz l y data fuel).2.2.length≠Qs x.2.1 0 then([x.2.2],13)
 else if 16384<sum+(Kz l y data fuel).2.2.length then([y.2.2],2)
 else([],0)
def devX(l:Bl)(x y:Ent)(data fuel:Int):Dv:=((x.1,(Qs x.2.1 1:Int),(Qs x.2.1 2:Int),(Qs x.2.1 3:Int)),(Kz l y data fuel).2.2)
def sumL(l:Bl)(T:List Ent)(data fuel:Int):Nat→Nat
 | 0=>0
 | i+1=>sumL l T data fuel i+(Kz l (T.getD i Zn) data fuel).2.2.length
def devI(l:Bl)(D T:List Ent)(data fuel:Int)(i:Nat):List Int×Int:=Di l (D.getD i Zn) (T.getD i Zn) data fuel (sumL l T data fuel i)
def devL(l:Bl)(D T:List Ent)(data fuel:Int)(i:Nat):List Dv:=(List.range i).map fun k=>devX l (D.getD k Zn) (T.getD k Zn) data fuel
theorem Zgt(l:Bl)(D T:List Ent)(data fuel:Int)(i:Nat):(devL l D T data fuel i).length=i:=by simp[devL]
theorem Ft(l:Bl)(D T:List Ent)(data fuel:Int)(i:Nat):devL l D T data fuel (i+1)=devL l D T data fuel i++[devX l (D.getD i Zn) (T.getD i Zn) data fuel]:=by simp[devL,List.range_succ]
def devK(l:Bl)(D T:List Ent)(data fuel:Int)(i:Nat):Prop:=∀ j,j<i→(devI l D T data fuel j).2=0
theorem Fp{l:Bl}{D T:List Ent}{data fuel:Int}{i:Nat}(h:devK l D T data fuel i)(h2:(devI l D T data fuel i).2=0):devK l D T data fuel (i+1):=fun j hj=>by
 by_cases e:j=i
 ·subst e;exact h2
 ·exact h j (by omega)
def Ok(l:Bl)(D T:List Ent)(data fuel:Int):List Int×Int×List Dv :=
 match (List.range D.length).find? (fun i=>(devI l D T data fuel i).2 != 0) with
 | some i=>((devI l D T data fuel i).1,(devI l D T data fuel i).2,[])
 | none=>([],0,devL l D T data fuel D.length)
theorem Fz{l:Bl}{D T:List Ent}{data fuel:Int}{i:Nat}(hi:i<D.length)(h:devK l D T data fuel i)(hb:(devI l D T data fuel i).2≠0):Ok l D T data fuel=((devI l D T data fuel i).1,(devI l D T data fuel i).2,[]):=by
 unfold Ok
 rw[show(List.range D.length).find? (fun i=>(devI l D T data fuel i).2 != 0)=some i from by
  rw[List.find?_range_eq_some]
  exact⟨by simpa using hb,List.mem_range.2 hi,fun m hm=>by simpa using h m hm⟩]
theorem Za2{l:Bl}{D T:List Ent}{data fuel:Int}(h:devK l D T data fuel D.length):Ok l D T data fuel=([],0,devL l D T data fuel D.length):=by
 unfold Ok
 rw[show(List.range D.length).find? (fun i=>(devI l D T data fuel i).2 != 0)=none from by
  rw[List.find?_eq_none]
  intro i hi
  have:=h i (List.mem_range.1 hi)
  simpa using this]
def Jo:List Ent→List Ent→Nat
 | [],[]=>0
 | [],_::_=>1
 | _::_,[]=>2
 | x::a,y::b=>if x.1=y.1 then Jo a b else if x.1<y.1 then 2 else 1
theorem pairE_zero{D T:List Ent}(h:Jo D T=0):D.length=T.length∧∀ i,i<D.length→(D.getD i Zn).1=(T.getD i Zn).1:=by
 induction D generalizing T with
 | nil =>
  cases T with
  | nil=>exact⟨rfl,fun i hi=>absurd hi (by simp)⟩
  | cons y b=>simp[Jo] at h
 | cons x a ih =>
  cases T with
  | nil=>simp[Jo] at h
  | cons y b =>
   by_cases e:x.1=y.1
   ·have h2:Jo a b=0:=by simpa [Jo,e] using h
    obtain⟨h3,h4⟩:=ih h2
    refine⟨by simp[h3],fun i hi=>?_⟩
    cases i with
    | zero=>simpa [List.getD] using e
    | succ i=>simpa [List.getD] using h4 i (by simpa using hi)
   ·by_cases q:x.1<y.1<;>simp[Jo,e,q] at h
def Vg(l:Bl)(top details data fuel:Int):List Int×Int×List Dv :=
 if(Ze l details 3 fuel).fs≠[] then((Vp (Ze l details 3 fuel)).1,(Vp (Ze l details 3 fuel)).2,[])
 else if(Ze l top 1 fuel).fs≠[] then((Vp (Ze l top 1 fuel)).1,(Vp (Ze l top 1 fuel)).2,[])
 else if 4096<(Ze l details 3 fuel).es.length then([details],2,[])
 else if Jo (Ze l details 3 fuel).es (Ze l top 1 fuel).es=1 then([details],18,[])
 else if Jo (Ze l details 3 fuel).es (Ze l top 1 fuel).es=2 then([top],18,[])
 else Ok l (Ze l details 3 fuel).es (Ze l top 1 fuel).es data fuel
theorem Lx(l:Bl)(root tree fuel:Int):Zgr 0 281474976710656 (Ze l root tree fuel).es:=by
 obtain⟨es,fs,h⟩:=Hh l root tree fuel
 have h1:(Ze l root tree fuel).es=es:=by rw[h.esE];rfl
 rw[h1];exact h.rise
theorem Zeu{es:List Ent}{data:Int}(h:Zgr 0 281474976710656 es):MapsOk data (Tj es data).2.2:=by
 unfold Tj
 split
 ·exact .nil _
 ·rename_i hf
  rw[List.find?_eq_none] at hf
  refine⟨?_,fun m hm=>?_⟩
  ·show(es.map Zb7).Pairwise _
   rw[List.pairwise_map];exact h.1
  ·obtain⟨x,hx,rfl⟩:=List.mem_map.1 hm
   have hk:=h.2 x hx
   obtain⟨i,hi,rfl⟩:=List.getElem_of_mem hx
   have he:=hf i (List.mem_range.2 hi)
   have e1:es.getD i Zn=es[i]:=by simp[List.getD,hi]
   rw[e1] at he
   have hb:=mapB_bd es[i].2.1
   have hq:Ij data es[i].2.1=0:=by simpa using he
   unfold Ij at hq
   split at hq
   ·rename_i h1;exact absurd hq h1
   ·split at hq
    ·exact absurd hq (by decide)
    ·rename_i h2
     unfold Zb7
     refine⟨⟨hk.1,by show es[i].1≤_;omega⟩,⟨Int.natCast_nonneg _,by show(Uk es[i].2.1:Int)<data;omega⟩,Int.natCast_nonneg _,by show(Pb es[i].2.1:Int)≤_;omega⟩
theorem Zey(l:Bl)(root data fuel:Int):MapsOk data (Zdr l root data fuel).2.2:=by
 unfold Zdr
 split
 ·exact .nil _
 ·exact Zeu (Lx _ _ _ _)
theorem detV_bd{v:Bl}(h:Xk Hm v=0):Qs v 1≤2147483647∧Qs v 2≤16777215∧Qs v 3≤16777215:=by
 have hr:We Hm v=true:=by
  unfold Xk at h
  split at h
  ·split at h
   ·assumption
   ·simp at h
  ·simp at h
 unfold Qs Ql
 rw[if_pos h]
 unfold We Gd at hr
 rw[List.all_eq_true] at hr
 have e:∀ i,i<4→((Jw Hm v).map fun n:Nat=>(n:Int)).getD i 0=(((Jw Hm v).getD i 0:Nat):Int):=fun i hi=>by
  simp[List.getD,show i<(Jw Hm v).length by rw[Wm];exact hi]
 have h1:=of_decide_eq_true (hr 1 (List.mem_range.2 (by decide)))
 have h2:=of_decide_eq_true (hr 2 (List.mem_range.2 (by decide)))
 have h3:=of_decide_eq_true (hr 3 (List.mem_range.2 (by decide)))
 rw[e _ (by decide)] at h1 h2 h3
 have a1:(((Jw Hm v).getD 1 0:Nat):Int)≤2147483647:=h1.2
 have a2:(((Jw Hm v).getD 2 0:Nat):Int)≤16777215:=h2.2
 have a3:(((Jw Hm v).getD 3 0:Nat):Int)≤16777215:=h3.2
 omega
theorem Zcr{l:Bl}{x y:Ent}{data fuel:Int}{sum:Nat}(h:(Di l x y data fuel sum).2=0):x.1≤16777215∧Xk Hm x.2.1=0∧sum+(Kz l y data fuel).2.2.length≤16384:=by
 unfold Di at h
 split at h
 ·exact absurd h (show ¬ (9:Int)=0 by decide)
 split at h
 ·rename_i h1;exact absurd h h1
 split at h
 ·rename_i h1;exact absurd h h1
 split at h
 ·rename_i h1;exact absurd h h1
 split at h
 ·exact absurd h (show ¬ (13:Int)=0 by decide)
 split at h
 ·exact absurd h (show ¬ (2:Int)=0 by decide)
 rename_i h1 h2 h3 h4 h5 h6
 exact⟨by omega,Classical.not_not.1 h2,by omega⟩
theorem Zhk(l:Bl)(D T:List Ent)(data fuel:Int):∀ i,Gv (devL l D T data fuel i)=sumL l T data fuel i
 | 0=>rfl
 | i+1=>by
  have ih:=Zhk l D T data fuel i
  unfold Gv at ih ⊢
  rw[Ft,List.map_append,List.sum_append,ih]
  simp[sumL,devX]
theorem Zeg{l:Bl}{D T:List Ent}{data fuel:Int}(hD:Zgr 0 281474976710656 D)(hl:D.length≤4096):DevsOk data (Ok l D T data fuel).2.2:=by
 unfold Ok
 split
 ·exact .nil _
 ·rename_i hf
  rw[List.find?_eq_none] at hf
  have hz:∀ i,i<D.length→(Di l (D.getD i Zn) (T.getD i Zn) data fuel (sumL l T data fuel i)).2=0:=fun i hi=>by simpa [devI] using hf i (List.mem_range.2 hi)
  refine⟨by show(devL l D T data fuel D.length).length≤_;rw[Zgt];exact hl,?_,?_,fun d hd=>?_⟩
  ·show Gv (devL l D T data fuel D.length)≤_
   rw[Zhk]
   cases hn:D.length with
   | zero=>exact(by decide:(0:Nat)≤16384)
   | succ n=>exact(Zcr (hz n (by omega))).2.2
  ·show((List.range D.length).map _).Pairwise _
   rw[List.pairwise_map,List.pairwise_iff_getElem]
   intro i j hi hj a0
   rw[List.length_range] at hi hj
   rw[List.getElem_range,List.getElem_range]
   have:=List.pairwise_iff_getElem.1 hD.1 i j hi hj a0
   show(D.getD i Zn).1<(D.getD j Zn).1
   rw[show D.getD i Zn=D[i] from by simp[List.getD,hi],show D.getD j Zn=D[j] from by simp[List.getD,hj]]
   exact this
  ·obtain⟨i,hi,rfl⟩:=List.mem_map.1 hd
   have hi:=List.mem_range.1 hi
   obtain⟨a,b,c⟩:=Zcr (hz i hi)
   have hk:=hD.2 (D.getD i Zn) (by rw[show D.getD i Zn=D[i] from by simp[List.getD,hi]];exact List.getElem_mem hi)
   obtain⟨b1,b2,b3⟩:=detV_bd b
   exact⟨⟨hk.1,a⟩,⟨Int.natCast_nonneg _,by show(Qs (D.getD i Zn).2.1 1:Int)≤_;omega⟩,⟨Int.natCast_nonneg _,by show(Qs (D.getD i Zn).2.1 2:Int)≤_;omega⟩,⟨Int.natCast_nonneg _,by show(Qs (D.getD i Zn).2.1 3:Int)≤_;omega⟩,Zey _ _ _ _⟩
theorem Zdx(l:Bl)(top details data fuel:Int):DevsOk data (Vg l top details data fuel).2.2:=by
 unfold Vg
 split
 ·exact .nil _
 split
 ·exact .nil _
 split
 ·exact .nil _
 split
 ·exact .nil _
 split
 ·exact .nil _
 exact Zeg (Lx _ _ _ _) (by omega)
theorem trE_no{g:Bl→Int}{r:List Int×Tr}(h:r.2=.no):trE g r=([],0)∧Tk r=false:=by
 obtain⟨a,b⟩:=r;subst h;exact⟨rfl,rfl⟩
theorem Zdh{g:Bl→Int}{r:List Int×Tr}{s:Bl}(h:r.2=.val s):Tk r=true∧trS r=s∧(g s=0→trE g r=([],0)):=by
 obtain⟨a,b⟩:=r;subst h
 refine⟨rfl,rfl,fun q=>?_⟩
 show(if g s≠0 then(a,g s) else([],0))=_
 rw[q];rfl
theorem allT_no{l:Bl}{way:List Int}{top id v:Int}(h:(Zp l 1 id 16 way top).2=.no):Wk l way top id v=⟨(Zp l 1 id 16 way top).1,false,0,0,[],0⟩:=by
 unfold Wk
 obtain⟨h1,h2⟩:=trE_no (g:=Xj) h
 simp[h1,h2]
theorem allT_no2{l:Bl}{way:List Int}{top id v:Int}{s:Bl}(h:(Zp l 1 id 16 way top).2=.val s)(hs:Xj s=0)(h2:(Zp l 2 v 16 (Zp l 1 id 16 way top).1 (Xm s:Int)).2=.no) :
 Wk l way top id v=⟨(Zp l 2 v 16 (Zp l 1 id 16 way top).1 (Xm s:Int)).1,false,0,0,[],0⟩:=by
 unfold Wk
 obtain⟨h3,h4,h5⟩:=Zdh (g:=Xj) h
 obtain⟨h6,h7⟩:=trE_no (g:=Xk Vm) h2
 simp[h3,h4,h5 hs,h6,h7]
theorem allT_val{l:Bl}{way:List Int}{top id v:Int}{s s2:Bl}(h:(Zp l 1 id 16 way top).2=.val s)(hs:Xj s=0)(h2:(Zp l 2 v 16 (Zp l 1 id 16 way top).1 (Xm s:Int)).2=.val s2)(hs2:Xk Vm s2=0) :
 Wk l way top id v=⟨(Zp l 2 v 16 (Zp l 1 id 16 way top).1 (Xm s:Int)).1,true,Uk s2,Pb s2,[],0⟩:=by
 unfold Wk
 obtain⟨h3,h4,h5⟩:=Zdh (g:=Xj) h
 obtain⟨h6,h7,h8⟩:=Zdh (g:=Xk Vm) h2
 simp[h3,h4,h5 hs,h6,h7,h8 hs2]
def Gi(M:List Mp)(v:Int):Bool×Int×Int:=match M.find? (fun m=>decide (m.1=v)) with
 | some m=>(true,m.2.1,m.2.2)
 | none=>(false,0,0)
def Ji(L:List Dv)(id:Int):List Mp:=match L.find? (fun d=>decide (d.1.1=id)) with
 | some d=>d.2
 | none=>[]
theorem tk_wholeW{s:WS}(h:s.fs≠[])(hn:∀ f∈s.fs,f.2≠0):(Vp s).2≠0:=by
 unfold Vp
 cases e:s.fs with
 | nil=>exact absurd e h
 | cons f r=>exact hn f (by rw[e];simp)
theorem Zfr{es:List Ent}{data:Int}(h:(Tj es data).2.1=0):∀ n,n≤es.length→Zcu data es n
 | 0,_=>fun j hj=>absurd hj (by omega)
 | n+1,hn=>by
  have ih:=Zfr h n (by omega)
  by_cases hb:Ij data (es.getD n Zn).2.1=0
  ·exact Bz ih hb
  ·rw[Re (by omega) ih hb] at h
   exact absurd h hb
theorem Zdo{l:Bl}{D T:List Ent}{data fuel:Int}(h:(Ok l D T data fuel).2.1=0):∀ n,n≤D.length→devK l D T data fuel n
 | 0,_=>fun j hj=>absurd hj (by omega)
 | n+1,hn=>by
  have ih:=Zdo h n (by omega)
  by_cases hb:(devI l D T data fuel n).2=0
  ·exact Fp ih hb
  ·rw[Fz (by omega) ih hb] at h
   exact absurd h hb
theorem tk_devE{l:Bl}{x y:Ent}{data fuel:Int}{sum:Nat}(h:(Di l x y data fuel sum).2=0):Xj y.2.1=0∧(Kz l y data fuel).2.1=0:=by
 unfold Di at h
 split at h
 ·cases h
 ·split at h
  ·rename_i q;exact absurd h q
  ·split at h
   ·rename_i q;exact absurd h q
   ·split at h
    ·rename_i q;exact absurd h q
    ·rename_i h1 h2 h3 h4
     exact⟨Decidable.not_not.1 h3,Decidable.not_not.1 h4⟩
theorem tk_pair:∀ {D T:List Ent},Jo D T=0→D.map Prod.fst=T.map Prod.fst
 | [],[],_=>rfl
 | [],_::_,h=>by cases h
 | _::_,[],h=>by cases h
 | x::a,y::b,h=>by
  have h:(if x.1=y.1 then Jo a b else if x.1<y.1 then 2 else 1)=0:=h
  split at h
  ·rename_i e;rw[List.map_cons,List.map_cons,e,tk_pair h]
  ·split at h<;>cases h
theorem Zbz{l:Bl}{root tree fuel:Int}(h:(Ze l root tree fuel).fs≠[]):(Vp (Ze l root tree fuel)).2≠0:=by
 obtain⟨es,fs,q⟩:=Hh l root tree fuel
 exact tk_wholeW h fun f hf=>(q.flt f (by have:=q.fsE;rw[this] at hf;simpa [ws0] using hf)).2.2
theorem tk_devs{l:Bl}{top details data fuel:Int}{L:List Dv}(h:Vg l top details data fuel=([],0,L)) :
 (Ze l top 1 fuel).fs=[]∧L=devL l (Ze l details 3 fuel).es (Ze l top 1 fuel).es data fuel (Ze l details 3 fuel).es.length∧(Ze l details 3 fuel).es.map Prod.fst=(Ze l top 1 fuel).es.map Prod.fst∧devK l (Ze l details 3 fuel).es (Ze l top 1 fuel).es data fuel (Ze l details 3 fuel).es.length:=by
 unfold Vg at h
 split at h
 ·rename_i q;exact absurd (congrArg (fun z=>z.2.1) h) (Zbz q)
 split at h
 ·rename_i q;exact absurd (congrArg (fun z=>z.2.1) h) (Zbz q)
 rename_i q1 q2
 split at h
 ·exact absurd (congrArg (fun z=>z.2.1) h) (by simp)
 split at h
 ·exact absurd (congrArg (fun z=>z.2.1) h) (by simp)
 split at h
 ·exact absurd (congrArg (fun z=>z.2.1) h) (by simp)
 rename_i p1 p2
 have hk:=Zdo (congrArg (fun z=>z.2.1) h) _ (Nat.le_refl _)
 have hp:Jo (Ze l details 3 fuel).es (Ze l top 1 fuel).es=0:=by
  have:∀ a b:List Ent,Jo a b≤2:=by
   intro a b
   induction a generalizing b with
   | nil=>cases b<;>simp[Jo]
   | cons x a ih=>cases b with
    | nil=>simp[Jo]
    | cons y b =>
     show(if x.1=y.1 then Jo a b else if x.1<y.1 then 2 else 1)≤2
     split
     ·exact ih b
     ·split<;>decide
  have:=this (Ze l details 3 fuel).es (Ze l top 1 fuel).es
  omega
 refine⟨Decidable.not_not.1 q2,?_,tk_pair hp,hk⟩
 rw[Za2 hk] at h
 exact(congrArg (fun z=>z.2.2) h).symm
theorem Om{α:Type}{L:List α}{p:α→Bool}{i:Nat}(hi:i<L.length)(h:p L[i]=true)(hj:∀ j,(hj:j<i)→p (L[j]'(by omega))=false):L.find? p=some L[i]:=by
 rw[List.find?_eq_some_iff_getElem]
 exact⟨h,i,hi,rfl,fun j q=>by rw[hj j q];rfl⟩
theorem Ze8{l:Bl}{top details data fuel:Int}{L:List Dv}(h:Vg l top details data fuel=([],0,L))(way:List Int)(id v:Int) :
 (Wk l way top id v).c=0∧(Wk l way top id v).fl=[]∧(∃ t,t≠[]∧(Wk l way top id v).way=way++t)∧((Wk l way top id v).found,(Wk l way top id v).b,(Wk l way top id v).t)=Gi (Ji L id) v:=by
 obtain⟨hT,hL,hp,hK⟩:=tk_devs h
 have a5:(Ze l details 3 fuel).es.length=(Ze l top 1 fuel).es.length:=by have:=congrArg List.length hp;simpa using this
 have b6:L.length=(Ze l top 1 fuel).es.length:=by rw[hL,Zgt,a5]
 have a9:∀ i (hi:i<L.length),L[i]=devX l ((Ze l details 3 fuel).es.getD i Zn) ((Ze l top 1 fuel).es.getD i Zn) data fuel:=fun i hi=>by
  simp only[hL,devL,List.getElem_map,List.getElem_range]
 have a6:∀ i (hi:i<L.length),L[i].1.1=((Ze l top 1 fuel).es[i]'(by omega)).1:=fun i hi=>by
  rw[a9 i hi]
  show((Ze l details 3 fuel).es.getD i Zn).1=_
  have e:((Ze l details 3 fuel).es.map Prod.fst)[i]? = ((Ze l top 1 fuel).es.map Prod.fst)[i]? := by rw[hp]
  rw[List.getElem?_map,List.getElem?_map,List.getElem?_eq_getElem (show i<(Ze l details 3 fuel).es.length by omega),List.getElem?_eq_getElem (show i<(Ze l top 1 fuel).es.length by omega)] at e
  simp only[Option.map_some,Option.some.injEq] at e
  simpa [List.getD,show i<(Ze l details 3 fuel).es.length by omega] using e
 obtain⟨t1,w1,w2⟩:=Sr l 1 id 16 way top
 rcases Zc7 hT id way with ⟨f1,f2⟩|⟨s,a,f1,f2⟩
 ·rw[allT_no f1]
  have a3:t1≠[]:=w2.elim (fun⟨_,_,q⟩=>by rw[f1] at q;cases q) fun q=>q
  refine⟨rfl,rfl,⟨t1,a3,w1⟩,?_⟩
  have:L.find? (fun d=>decide (d.1.1=id))=none:=by
   rw[List.find?_eq_none]
   intro d hd
   obtain⟨i,hi,rfl⟩:=List.mem_iff_getElem.1 hd
   have:=f2 _ (List.getElem_mem (show i<(Ze l top 1 fuel).es.length by omega))
   rw[←a6 i hi] at this
   simpa using this
  unfold Ji
  rw[this];rfl
 ·obtain⟨i,hi,a7⟩:=List.mem_iff_getElem.1 f2
  have a4:i<L.length:=by omega
  have a8:(Ze l top 1 fuel).es.getD i Zn=(id,s,a):=by simp[List.getD,hi,a7]
  have b1:L.find? (fun d=>decide (d.1.1=id))=some L[i]:=by
   refine Om a4 (by rw[a6 i a4,a7];simp) fun j hj=>?_
   have:=(List.pairwise_iff_getElem.1 (Lx l top 1 fuel).1) j i (by omega) hi hj
   rw[a7] at this
   simp only[decide_eq_false_iff_not]
   rw[a6 j (by omega)]
   simp only at this
   omega
  have he:=hK i (by omega)
  unfold devI at he
  rw[a8] at he
  obtain⟨hr,ho⟩:=tk_devE he
  have hr:Xj s=0:=hr
  have hm:(Kz l (id,s,a) data fuel).2.2=((Ze l (Xm s:Int) 2 fuel).es).map Zb7∧(Ze l (Xm s:Int) 2 fuel).fs=[]∧Zcu data (Ze l (Xm s:Int) 2 fuel).es (Ze l (Xm s:Int) 2 fuel).es.length:=by
   unfold Kz at ho ⊢
   simp only at ho ⊢
   by_cases q:(Ze l (Xm s:Int) 2 fuel).fs=[]
   ·rw[Lm q] at ho ⊢
    have k:=Zfr ho _ (Nat.le_refl _)
    rw[Ox k]
    exact⟨rfl,q,k⟩
   ·rw[Fy q] at ho
    exact absurd ho (Zbz q)
  obtain⟨b4,b0,b5⟩:=hm
  have b3:Ji L id=((Ze l (Xm s:Int) 2 fuel).es).map Zb7:=by
   unfold Ji
   rw[b1]
   show L[i].2=_
   rw[a9 i a4,a8]
   exact b4
  rw[b3]
  obtain⟨t2,w3,w4⟩:=Sr l 2 v 16 (Zp l 1 id 16 way top).1 (Xm s:Int)
  have a3:∀ r,(Zp l 2 v 16 (Zp l 1 id 16 way top).1 (Xm s:Int)).2=r→(∀ fl c,r≠.bad fl c)→t2≠[]:=fun r h1 h2=>w4.elim (fun⟨_,_,q⟩=>absurd (h1.symm.trans q) (h2 _ _)) fun q=>q
  rcases Zc7 b0 v (Zp l 1 id 16 way top).1 with ⟨g1,g2⟩|⟨s2,a2,g1,g2⟩
  ·rw[allT_no2 f1 hr g1]
   refine⟨rfl,rfl,⟨t1++t2,by simp[a3 _ g1 (by simp)],by rw[w3,w1,List.append_assoc]⟩,?_⟩
   have:(((Ze l (Xm s:Int) 2 fuel).es).map Zb7).find? (fun m=>decide (m.1=v))=none:=by
    rw[List.find?_eq_none]
    intro m hm
    obtain⟨x,hx,rfl⟩:=List.mem_map.1 hm
    have:=g2 x hx
    show ¬ decide (x.1=v)=true
    simpa using this
   unfold Gi
   rw[this]
  ·obtain⟨j,hj,a1⟩:=List.mem_iff_getElem.1 g2
   have a0:=b5 j hj
   rw[show(Ze l (Xm s:Int) 2 fuel).es.getD j Zn=(v,s2,a2) by simp[List.getD,hj,a1]] at a0
   have b2:Xk Vm s2=0:=by
    unfold Ij at a0
    simp only at a0
    split at a0
    ·rename_i q;exact absurd a0 q
    ·rename_i q;exact Decidable.not_not.1 q
   rw[allT_val f1 hr g1 b2]
   refine⟨rfl,rfl,⟨t1++t2,by simp[a3 _ g1 (by simp)],by rw[w3,w1,List.append_assoc]⟩,?_⟩
   have:(((Ze l (Xm s:Int) 2 fuel).es).map Zb7).find? (fun m=>decide (m.1=v))=some (Zb7 (v,s2,a2)):=by
    rw[Om (i:=j) (by simpa using hj) (by rw[List.getElem_map,a1];simp[Zb7]) fun k hk=>?_]
    ·rw[List.getElem_map,a1]
    ·have:=(List.pairwise_iff_getElem.1 (Lx l (Xm s:Int) 2 fuel).1) k j (by omega) hj hk
     rw[a1] at this
     simp only at this
     rw[List.getElem_map]
     show decide (((Ze l (Xm s:Int) 2 fuel).es[k]'(by omega)).1=v)=false
     rw[decide_eq_false_iff_not]
     omega
   unfold Gi
   rw[this]
   rfl
end Go.Proofs.YtceeiinepijokaaGreat
namespace Go.Proofs.YtceeiinepijokaaGreat
set_option maxHeartbeats 8000000
set_option maxRecDepth 100000
open Go.RowKit Go.Extern.Stop Go.Stop Go.Extern
set_option linter.unusedVariables false
attribute [local irreducible] wpList wpAnyH Code.wp Oper.wp Go
attribute [local go_sem] Oper.semAt_some
def TWrapP(l:List Int)(ec:Int)(w:World)(e:Ending)(w':World):Prop :=
 ∃ ty x,e=.returned (.iface ty x)∧B3 w w'∧Va w' (l.map some) (some ec) (.iface ty x)
theorem Yu(bx:Nat)(c0:Value)(pw:O0)(cw:Nat)(way bs:List Int)(ec:Int)(ty:TypeId)(ev:Value)(w:World)(kX:Blk w bx [c0,.slice pw way.length cw] 66)(hway:Ints w (.slice pw way.length cw) way)(hwb:∀ b off x,pw=some ⟨b,off,x⟩→b<w.heap.size)(hE:Va w (bs.map some) (some ec) (.iface ty ev))(hwl:way.length≤1000000) :
 C0 86 #[P0 bx,.iface ty ev] w (TWrapP (way++bs) ec w):=by
 refine Qr Tryz.func86 rfl ?_
 refine Zet ⟨#[P0 bx,.iface ty ev,undef,undef,undef,undef,undef,undef,undef,undef,undef,undef,undef,undef,undef,undef,undef,undef],[]⟩ (by kernel_rfl) ?_
 refine wp_seq ?_
 refine wp_region_lit ?_
 refine Xx (by kernel_rfl) (Dj [.iface ty ev] rfl (by kernel_rfl) ?_)
 intro b1 W1 n1
 have d1_bx:=n1.ne kX
 have g1:=n1.ge (B4 w)
 have hB:=n1.below
 replace kX:=kX.below n1.below
 replace hE:=hE.below n1.below
 have k1:=n1.blk
 refine Yy 1 [(4,.nilIface)] (by kernel_rfl) ?_
 refine wpList_nil ?_
 refine wp_seq ?_
 refine wp_seq ?_
 refine wp_region_lit ?_
 refine Yy 3 [(7,P0 bx),(8,P0 bx),(9,.pointer (some ⟨bx,1,none⟩))] (by kernel_rfl) ?_
 refine Xx (by kernel_rfl) (Xr ⟨bx,1,none⟩ (.slice pw way.length cw) rfl (by kernel_rfl) (by kernel_rfl) (kX.cell (i:=1) rfl) ?_)
 have lt2_bx:=kX.lt
 have lt2_b1:=k1.lt
 have hs2:w.heap.size≤(W1).heap.size:=hB.size
 refine Xx (by kernel_rfl) (Yd (lb:=#[]) 150 #[.slice pw way.length cw] rfl (by kernel_rfl) (fun _ _=>by kernel_rfl) (by kernel_rfl) ((Pg pw way.length cw _).mono ?_))
 rintro e W2 ⟨bk2,rfl,hb2,hg2,kk2⟩
 refine⟨_,rfl,?_⟩
 replace hB:=bln hB hb2
 replace kX:=kX.below hb2
 replace k1:=k1.below hb2
 replace hE:=hE.below hb2
 have gb2:w.heap.size≤bk2:=Nat.le_trans hs2 hg2
 have nb2_bx:bk2≠bx:=by omega
 have nb2_b1:bk2≠b1:=by omega
 refine wpList_nil ?_
 refine wp_block ?_
 have hzk:=kk2.lt
 have hz3:=k1.lt
 have hge3:=g1
 have hst:=Aj bk2 (fun b=>b<W2.heap.size∧b≠b1) (.slice pw way.length cw) way W2 (fun b h=>h.1) ⟨hzk,nb2_b1⟩ (by omega) (hway.below hB) (fun _ b off n cap q=>by cases q;have q1:=hwb _ _ _ rfl;exact⟨by omega,by omega⟩) (kk2.cell (i:=0) rfl)
 refine Zet ⟨#[P0 bx,.iface ty ev,undef,P0 b1,.nilIface,undef,undef,P0 bx,P0 bx,.pointer (some ⟨bx,1,none⟩),.slice pw way.length cw,.func (.func 209) #[] #[P0 bk2],undef,undef,undef,undef,undef,undef],[]⟩ (by kernel_rfl) ?_
 refine Eu (g:=.tmp 11) (gf:=209) (lb:=#[P0 bk2]) rfl (enters_of Tryz.func209 (by kernel_rfl) rfl) _ (fun b h=>h.1) hst (fun _=>rfl)
  (fun pre W=>(∃ v',Blk W b1 [v'] 32∧Va W ((atW way pre bs).map some) (some ec) v')∧BelowBut W2 b1 W)
  (fun _ _ _=>False) ?own (fun _ _ _ _ _ h _ _=>h) ⟨⟨_,k1,hE⟩,(Below.refl _ _).but _⟩
  (fun x a' _=>a'={ tmps:=#[P0 bx,.iface ty ev,undef,P0 b1,.nilIface,undef,V0 (way[qOf x]?.getD 0),P0 bx,P0 bx,.pointer (some ⟨bx,1,none⟩),.slice pw way.length cw,.func (.func 209) #[] #[P0 bk2],V0 (qOf x:Int),V0 (way[qOf x]?.getD 0),undef,undef,undef,undef],defers:=[] }) (fun _ _ _ _ _ _ h _ _=>h) ?assign ?body ?done (fun _ _ _ _ _ _ h _=>h.elim)
 case own=>exact OwnFrom.and (Own.from (fun s A B row hs hg hr=>by obtain⟨v',h1,h2⟩:=hs;exact⟨v',h1.turn hg hr,h2.turn hg hr⟩) _) (Mh (Nat.le_refl _))
 case assign =>
  rintro lr pre x W K hI hK
  unfold encB
  gi_wp2
  exact hK _ _ (KeepsFrom.refl _ _) (Keeps.refl _ _) hI rfl
 case body =>
  rintro lr pre x a' W hlr ⟨⟨v',m3,hv'⟩,hbb⟩ rfl hlt
  have mc:=m3.cell (i:=0) rfl
  gi_wp2_with (refine⟨trivial,?_⟩;gi_at_call 82;refine(CallsIn.inRound lr (callsIn_wide.2 (Yn _ _ _ _ _ hv'))).mono ?_;rintro e w2 ⟨r2,rfl,hb2,hE2⟩;obtain⟨t2,x2,rfl⟩:=hE2.iface;have m4:=m3.below hb2;have mg:=m4.frozen 0;have md:=m4.cell (i:=0) rfl)
  have hb2s:=hb2.size
  have u2:=Upd.setCell w2 b1 0 (.iface t2 x2)
  exact⟨((Gj hb2).trans (KeepsOthers.setCell _ _ _)).from _,Keeps.setCell (Keeps.of_below hb2 (fun b hb=>by have:=hbb.size;have:=hb.1;omega)) (fun hb=>hb.2 rfl) _,⟨_,m4.set 0 _,by rw[Zgd,List.map_cons,←Qa (c:=ec)];exact(hE2.upd u2 m4 (by decide))⟩,(hbb.next hb2).upd u2⟩
 case done =>
 rintro D xs W hD rfl ⟨⟨v',m3,hv'⟩,hbb⟩ hK0
 rw[atW_all] at hv'
 have hK:Dfr D W:=hK0;clear hK0
 refine Ou ?_
 refine Zet ⟨#[P0 bx,.iface ty ev,undef,P0 b1,.nilIface,undef,undef,P0 bx,P0 bx,.pointer (some ⟨bx,1,none⟩),.slice pw way.length cw,.func (.func 209) #[] #[P0 bk2],undef,undef,undef,undef,undef,undef],[{ target:=.collected D,args:=#[] }]⟩ (by kernel_rfl) ?_
 have hv1:=hv'.one
 obtain⟨ty',x',rfl⟩:=hv'.iface
 have hDB:w.heap.size≤D:=Nat.le_trans (by omega) hD
 have hB0:=hB
 replace hB:=hbb.below hB0 hge3 hB0.size
 replace k1:=m3
 refine wp_seq ?_
 refine wp_region_lit ?_
 refine Xx (by kernel_rfl) (Xr ⟨b1,0,none⟩ (.iface ty' x') rfl (by kernel_rfl) (by kernel_rfl) (k1.cell (i:=0) rfl) ?_)
 refine Yy 1 [(4,.iface ty' x')] (by kernel_rfl) ?_
 refine wpList_nil ?_
 refine wp_ret ?_
 exact Aw hK (.iface ty' x') (by kernel_rfl) (by kernel_rfl) ⟨_,_,rfl,(Upd.of_put _ _ _).below hB hDB,hv'.kept fun _ _ q=>(Upd.of_put _ _ _).blk q (hK.ne q)⟩
end Go.Proofs.YtceeiinepijokaaGreat
namespace Go.Proofs.YtceeiinepijokaaGreat
set_option maxHeartbeats 8000000
set_option maxRecDepth 100000
open Go.Shelf
set_option linter.unusedVariables false
def Nm:Go.Shelf.Ren:=⟨fun|49=>88|59=>154|60=>155|68=>215|n=>n,fun|22=>35|23=>3|3=>3|4=>4|51=>192|0=>0|n=>n,fun|n=>n⟩
theorem Ek:Go.Proofs.SlLaysN.n49 Tryz.prog Nm:={
 mixed:=by kernel_rfl
 f49:=⟨Tryz.f88.name,by decide,Tryz.func88.trans (congrArg some (by kernel_rfl))⟩
 f59:=⟨Tryz.f154.name,by decide,Tryz.func154.trans (congrArg some (by kernel_rfl))⟩
 f60:=⟨Tryz.f155.name,by decide,Tryz.func155.trans (congrArg some (by kernel_rfl))⟩
 f68:=⟨Tryz.f215.name,by decide,Tryz.func215.trans (congrArg some (by kernel_rfl))⟩
 t0:=Tryz.underlying0
 a0:=Tryz.isAgg0
 z0:=Tryz.sizeOf0
 v0:=Tryz.zeroValue0
 t3:=Tryz.underlying3
 a3:=Tryz.isAgg3
 z3:=Tryz.sizeOf3
 v3:=Tryz.zeroValue3
 t4:=Tryz.underlying4
 a4:=Tryz.isAgg4
 z4:=Tryz.sizeOf4
 v4:=Tryz.zeroValue4
 t22:=Tryz.underlying35
 a22:=Tryz.isAgg35
 z22:=Tryz.sizeOf35
 v22:=Tryz.zeroValue35
 t23:=Tryz.underlying3
 a23:=Tryz.isAgg3
 z23:=Tryz.sizeOf3
 v23:=Tryz.zeroValue3
 t51:=Tryz.underlying192
 a51:=Tryz.isAgg192
 z51:=Tryz.sizeOf192
 v51:=Tryz.zeroValue192 }
open Go.RowKit Go.Lib in
theorem Gf(b off n c:Nat)(zs:List Int)(x:Int)(w:World)(hz:n≤zs.length)(hbig:n<4611686018427387904)(hc:∀ j,j<zs.length→w.cell? ⟨b,off+j,none⟩=some (V0 (zs.getD j 0)))(hs:(zs.take n).Pairwise (·≤·)) :
    C0 88 #[.slice (some ⟨b,off,none⟩) n c,V0 x] w fun e w'=>e=.returned (.tuple #[V0 ((zs.take n).countP (·<x):Nat),.bool ((zs.take n).contains x)])∧∃ q,w'=w.drewN q:=AnyG.slices_BinarySearch_int Ek b off n c zs x w hz hbig hc hs
end Go.Proofs.YtceeiinepijokaaGreat
namespace Go.Proofs.YtceeiinepijokaaGreat
set_option maxHeartbeats 8000000
set_option maxRecDepth 100000
open Go.RowKit Go.Extern.Stop Go.Stop Go.Extern
set_option linter.unusedVariables false
attribute [local irreducible] wpList wpAnyH Code.wp Oper.wp Go
theorem Mb(w:World)(q:Nat):B3 w (w.drewN q):=⟨rfl,rfl,rfl,Nat.le_refl _,fun _ _=>rfl⟩
def BsP (K:List Int)(key:Int)(w:World)(e:Ending)(w':World):Prop :=
 (key∈K∧∃ c,trC K key=c+1∧c<K.length∧e=.returned (.tuple #[V0 (c:Int),.bool true])∧B3 w w') ∨
 (key∉K∧trC K key=0∧e=.returned (.tuple #[V0 0,.bool false])∧B3 w w') ∨
 (key∉K∧∃ c,trC K key=c+1∧c<K.length∧e=.returned (.tuple #[V0 ((c+1:Nat):Int),.bool false])∧B3 w w')
theorem search_nil(p:O0)(c:Nat)(x:Int)(w:World) :
 C0 88 #[.slice p 0 c,V0 x] w (Ret (.tuple #[V0 0,.bool false]) w):=by
 refine zin 54 Tryz.func88 ?_
 refine xu 22 1 ?_
 exact xe 44 (.tuple #[V0 0,.bool false]) ⟨rfl,(B4 w)⟩
theorem Ic{base n:Nat}{p:O0}{c:Nat}{K:List Int}(key:Int)(w:World)(hl:K.length=n)(hn:n≤1000000)(hs:K.Pairwise (·<·))(ho:w.ownsRow base 3 1 (.slice p n c) n (K.map V0)) :
 C0 88 #[.slice p n c,V0 key] w (BsP K key w):=by
 subst hl
 have hI:Ints w (.slice p K.length c) K:=Zf ho
 have a0:=trC_lt hs key
 have a5:=Zbs K key
 rcases ho.2 with ⟨h1,h2⟩|⟨g,a3,a1,hv,hb,hh,a2,a4,a6,a7⟩
 ·have hL:K=[]:=List.eq_nil_of_length_eq_zero h2
  subst hL
  refine(search_nil p c key w).mono ?_
  rintro e W ⟨rfl,hb⟩
  exact .inr (.inl ⟨by simp,by simp[trC],rfl,hb⟩)
 ·simp only[Value.slice.injEq] at hv
  obtain⟨rfl,_,rfl⟩:=hv
  refine(Gf g 0 K.length _ K key w (Nat.le_refl _) (by omega) (fun j hj=>?_) ?_).mono ?_
  ·have q:=(Ints.elem hI (k:=j) hj).2
   rw[Nat.mul_one] at q
   have e:Zo (S1 g) j=⟨g,0+j,none⟩:=Cy g 0 j
   rw[←e];exact q
  ·rw[List.take_length];exact hs.imp fun h=>by omega
  ·rintro e W ⟨rfl,q,rfl⟩
   rw[List.take_length]
   by_cases hm:key∈K
   ·rw[if_pos hm] at a0
    exact .inl ⟨hm,_,a0,by omega,by rw[List.contains_iff_mem.2 hm],Mb w q⟩
   ·rw[if_neg hm,Nat.add_zero] at a0
    rw[←a0,show K.contains key=false from by simpa using hm]
    cases h0:trC K key with
    | zero=>exact .inr (.inl ⟨hm,h0,rfl,Mb w q⟩)
    | succ c=>exact .inr (.inr ⟨hm,c,h0,by omega,rfl,Mb w q⟩)
theorem Nu(w:World) :
 C0 91 #[] w (Vo (fun w' r=>∃ b,r=.slice (S1 b) 1 1∧w.heap.size≤b∧Blk w' b [V0 8,V0 0,V0 1099511627775] 268) w):=by
 refine zin 3 Tryz.func91 ?_
 refine xbs 8 1 [V0 8,V0 0,V0 1099511627775] 268 fun b1 W1 n1=>?_
 exact xe 4 (.slice (S1 b1) 1 1) ⟨_,rfl,n1.below,b1,rfl,(n1.ge (B4 w)),n1.blk⟩
theorem map_shr(s:Bl):Int.fdiv (↑((Ql Vm s).getD 0 0):Int) (2 ^ 24)=(Uk s:Int):=by
 show Int.fdiv ((mapN s:Nat):Int) ((16777216:Nat):Int)=_
 rw[Int.fdiv_eq_ediv_of_nonneg _ (by omega)]
 unfold Uk;omega
theorem map_and(s:Bl):IntKind.i64.wrap (↑(BitVec.ofInt 64 (↑((Ql Vm s).getD 0 0):Int) &&& BitVec.ofInt 64 (16777215:Int)).toNat:Int)=(Pb s:Int):=by
 show IntKind.i64.wrap (↑(BitVec.ofInt 64 (mapN s:Int) &&& BitVec.ofInt 64 (16777215:Int)).toNat:Int)=(Pb s:Int)
 have:=mapN_bd s
 rw[show(16777215:Int)=((16777215:Nat):Int) from rfl,BitVec.ofInt_natCast,BitVec.ofInt_natCast,BitVec.toNat_and,BitVec.toNat_ofNat,BitVec.toNat_ofNat,Nat.mod_eq_of_lt (by omega),Nat.mod_eq_of_lt (by omega)]
 rw[show mapN s &&& 16777215=mapN s%16777216 from Nat.and_two_pow_sub_one_eq_mod (mapN s) 24]
 exact Bt (by omega)
theorem Bg(s:Bl)(w:World)(hs:s.length≤1000) :
 C0 51 #[.string ⟨s.toArray⟩] w (Ret (.tuple #[V0 (↑(Uk s):Int),V0 (↑(Pb s):Int),V0 (Xk Vm s)]) w):=by
 refine zin 22 Tryz.func51 ?_
 refine xc 9 (args:=#[]) (Nu _) ?_
 rintro _ W1 ⟨_,rfl,a1,gl,rfl,gg,kl⟩
 refine xc 1 (args:=#[.slice (S1 gl) 1 1,.string ⟨s.toArray⟩]) (Ta Vm s (S1 gl) 1 _ Zdy (by decide) (by omega) (kl.sl 1 1 (by decide) (by decide))) ?_
 rintro _ W2 ⟨_,rfl,a2,p5,c5,rfl,h5⟩
 refine xd 8 .z ?_
 have a0:=Zb (Zh h5 a1.size) (Za W2)
 refine xx (.e [0] 1) _ 1 0 1 (Xb (l:=Ql Vm s) (Zf a0) (Qp _ _) (k:=0) (by decide)).1 ?_
 refine xl (.e [] 2) ((Xb (l:=Ql Vm s) (Zf a0) (Qp _ _) (k:=0) (by decide)).2) ?_
 refine xq (.e [] 3) (congrArg V0 (show(Int.fdiv (↑((Ql Vm s).getD 0 0):Int) (2 ^ 24):Int)=(↑(Uk s):Int) from map_shr s)) ?_
 refine xx (.e [4] 5) _ 1 0 1 (Xb (l:=Ql Vm s) (Zf a0) (Qp _ _) (k:=0) (by decide)).1 ?_
 refine xl (.e [] 6) ((Xb (l:=Ql Vm s) (Zf a0) (Qp _ _) (k:=0) (by decide)).2) ?_
 refine xq (.e [] 7) (congrArg V0 (show(IntKind.i64.wrap (↑(BitVec.ofInt 64 (↑((Ql Vm s).getD 0 0):Int) &&& BitVec.ofInt 64 (16777215:Int)).toNat:Int):Int)=(↑(Pb s):Int) from map_and s)) ?_
 have hB:=bln (bln a1 a2) (Za W2)
 exact xe (.r [8,9,10,11] 3) (.tuple #[V0 (↑(Uk s):Int),V0 (↑(Pb s):Int),V0 (Xk Vm s)]) ⟨rfl,hB⟩
theorem Gp(w:World) :
 C0 148 #[] w (Vo (fun w' r=>∃ b,r=.slice (S1 b) 4 4∧w.heap.size≤b∧Blk w' b [V0 8,V0 0,V0 16384,V0 8,V0 0,V0 2147483647,V0 4,V0 0,V0 16777215,V0 4,V0 0,V0 16777215] 268) w):=by
 refine zin 6 Tryz.func148 ?_
 refine xbs 11 4 [V0 8,V0 0,V0 16384,V0 8,V0 0,V0 2147483647,V0 4,V0 0,V0 16777215,V0 4,V0 0,V0 16777215] 268 fun b1 W1 n1=>?_
 exact xe 4 (.slice (S1 b1) 4 4) ⟨_,rfl,n1.below,b1,rfl,(n1.ge (B4 w)),n1.blk⟩
theorem El(s:Bl)(w:World)(hs:s.length≤1000) :
 C0 84 #[.string ⟨s.toArray⟩] w (Ret (.tuple #[.agg #[V0 (↑(Qs s 0):Int),V0 (↑(Qs s 1):Int),V0 (↑(Qs s 2):Int),V0 (↑(Qs s 3):Int)],V0 (Xk Hm s)]) w):=by
 refine zin 26 Tryz.func84 ?_
 refine xa 2 [V0 0,V0 0,V0 0,V0 0] 176 fun b1 W1 n1=>?_
 refine xc 5 (args:=#[]) (Gp _) ?_
 rintro _ W2 ⟨_,rfl,a1,gl,rfl,gg,kl⟩
 refine xc 1 (args:=#[.slice (S1 gl) 4 4,.string ⟨s.toArray⟩]) (Ta Hm s (S1 gl) 4 _ Zfe (by decide) (by omega) (kl.sl 4 4 (by decide) (by decide))) ?_
 rintro _ W3 ⟨_,rfl,a2,p5,c5,rfl,h5⟩
 have a3:=(bln n1.below a1).size
 refine xd 8 (.t w.heap.size [176]) ?_
 have a0:=Zb (Zh h5 a3) (Za W3)
 refine xx (.e [0] 1) _ 4 0 1 (Xb (l:=Ql Hm s) (Zf a0) (Qp _ _) (k:=0) (by decide)).1 ?_
 refine xlt (.e [] 2) (.t w.heap.size [176]) (fun V hV=>(Xb (l:=Ql Hm s) (Zf (Zi a0 hV.2 (by decide))) (Qp _ _) (k:=0) (by decide)).2) ?_
 refine xx (.e [3] 4) _ 4 1 1 (Xb (l:=Ql Hm s) (Zf a0) (Qp _ _) (k:=1) (by decide)).1 ?_
 refine xlt (.e [] 5) (.t w.heap.size [176]) (fun V hV=>(Xb (l:=Ql Hm s) (Zf (Zi a0 hV.2 (by decide))) (Qp _ _) (k:=1) (by decide)).2) ?_
 refine xx (.e [6] 7) _ 4 2 1 (Xb (l:=Ql Hm s) (Zf a0) (Qp _ _) (k:=2) (by decide)).1 ?_
 refine xlt (.e [] 8) (.t w.heap.size [176]) (fun V hV=>(Xb (l:=Ql Hm s) (Zf (Zi a0 hV.2 (by decide))) (Qp _ _) (k:=2) (by decide)).2) ?_
 refine xx (.e [9] 10) _ 4 3 1 (Xb (l:=Ql Hm s) (Zf a0) (Qp _ _) (k:=3) (by decide)).1 ?_
 refine xlt (.e [] 11) (.t w.heap.size [176]) (fun V hV=>(Xb (l:=Ql Hm s) (Zf (Zi a0 hV.2 (by decide))) (Qp _ _) (k:=3) (by decide)).2) ?_
 have k1:=((n1.blk.below a1).below a2).below (Za W3)
 have g1:=n1.ge (B4 w)
 refine ysv (.o [12,13] 14) k1 [V0 (↑((Ql Hm s).getD 0 0):Int),V0 (↑((Ql Hm s).getD 1 0):Int),V0 (↑((Ql Hm s).getD 2 0):Int),V0 (↑((Ql Hm s).getD 3 0):Int)] (.t w.heap.size [176]) fun W4 u4 k4=>⟨(Zl u4 k1 g1 (by decide)),?_⟩
 have hB:=u4.below (bln (bln (bln n1.below a1) a2) (Za W3)) g1
 exact xec (.r [15] 3) k4 (.tuple #[.agg #[V0 (↑((Ql Hm s).getD 0 0):Int),V0 (↑((Ql Hm s).getD 1 0):Int),V0 (↑((Ql Hm s).getD 2 0):Int),V0 (↑((Ql Hm s).getD 3 0):Int)],V0 (Xk Hm s)]) ⟨rfl,hB⟩
def trR (r:List Int×Tr):Int:=match r with
 | (_,.val s)=>(Xm s:Int)
 | _=>0
def trM (r:List Int×Tr):List Value:=match r with
 | (_,.val s)=>[S0,.bool (Xk Vm s==0),V0 (Uk s:Int),V0 (Pb s:Int)]
 | _=>[S0,.bool false,V0 0,V0 0]
def All1P(B br:Nat)(s:Bl)(rv:Value)(rn:Nat)(rx:List Value)(w:World)(e:Ending)(w':World):Prop:=e=.returned (V0 (Xj s))∧Below B w w'∧Zd [3] w w'∧Blk w' br [V0 (Xm s:Int)] 3∧w'.ownsRow B 3 1 rv rn rx
def All2P(B br:Nat)(s:Bl)(w:World)(e:Ending)(w':World):Prop:=e=.returned (V0 (Xk Vm s))∧Below B w w'∧Zd [37] w w'∧Blk w' br [S0,.bool (Xk Vm s==0),V0 (Uk s:Int),V0 (Pb s:Int)] 37∧BelowBut w br w'
structure KeepD(br:Nat)(a w:World):Prop where
 h:∀ k cs,k≠br→Blk a k cs 37→Blk w k cs 37
theorem KeepD.refl(br:Nat)(w:World):KeepD br w w:=⟨fun _ _ _ h=>h⟩
theorem KeepD.below{br:Nat}{a w W:World}(h:KeepD br a w)(hb:B3 w W):KeepD br a W:=⟨fun k cs hk q=>(h.h k cs hk q).below hb⟩
theorem KeepD.only{br:Nat}{a w W:World}{T:List TypeId}(h:KeepD br a w)(hO:Zd T w W)(hT:T.contains 37=false):KeepD br a W:=⟨fun k cs hk q=>(h.h k cs hk q).only hO hT⟩
theorem KeepD.but{br:Nat}{a w W:World}(h:KeepD br a w)(hb:BelowBut w br W):KeepD br a W:=⟨fun k cs hk q=>hb.blk (h.h k cs hk q) hk⟩
def Zbg(g:Bl→Int)(C:List Value)(tc:TypeId)(R:List Int×Tr)(T:List TypeId)(K:World→World→Prop)(B bx br:Nat)(c0:Value)(w:World)(e:Ending)(w':World):Prop :=
 ((trE g R).2≠0∧∃ ty x p c,e=.returned (.iface ty x)∧Below B w w'∧Zd T w w'∧K w w'∧Blk w' bx [c0,.slice p R.1.length c] 66∧w'.ownsRow B 3 1 (.slice p R.1.length c) R.1.length (R.1.map V0)∧Blk w' br C tc∧Va w' ((trE g R).1.map some) (some (trE g R).2) (.iface ty x)) ∨
 ((trE g R).2=0∧∃ p c,e=.returned .nilIface∧Below B w w'∧Zd T w w'∧K w w'∧Blk w' bx [c0,.slice p R.1.length c] 66∧w'.ownsRow B 3 1 (.slice p R.1.length c) R.1.length (R.1.map V0)∧Blk w' br C tc)
theorem Ak{l:Bl}{t key no:Int}{way:List Int}{R:List Int×Tr}{k:Nat}(hk:k=0)(h:R=Zp l t key k way no):R=(way,.bad (way++[no]) 10):=by subst hk;rw[h,Zp]
theorem Zcz{l:Bl}{t key no:Int}{way:List Int}{R:List Int×Tr}{k:Nat}(hk:k≠0)(h:R=Zp l t key k way no)(hne:Xc l no t≠0):R=(way,.bad (way++[no]) (Xc l no t)):=by
 obtain⟨d,rfl⟩:∃ d,k=d+1:=⟨k-1,by omega⟩
 rw[h,Zp,if_pos hne]
theorem Hf{l:Bl}{t key no:Int}{way:List Int}{R:List Int×Tr}{k:Nat}(hk:k≠0)(h:R=Zp l t key k way no)(hne:Xc l no t=0)(h0:trC (Yo l no) key=0):R=(way++[no],.no):=by
 obtain⟨d,rfl⟩:∃ d,k=d+1:=⟨k-1,by omega⟩
 rw[h,Zp,if_neg (by rw[hne];decide),if_pos h0]
theorem So{l:Bl}{t key no:Int}{way:List Int}{R:List Int×Tr}{k:Nat}(hk:k≠0)(h:R=Zp l t key k way no)(hne:Xc l no t=0)(hl:Xp (inB l no)=true)(hm:key∉Yo l no):R=(way++[no],.no):=by
 obtain⟨d,rfl⟩:∃ d,k=d+1:=⟨k-1,by omega⟩
 rw[h,Zp,if_neg (by rw[hne];decide)]
 by_cases h0:trC (Yo l no) key=0
 ·rw[if_pos h0]
 ·rw[if_neg h0,if_pos hl,if_neg hm]
theorem Bd{l:Bl}{t key no:Int}{way:List Int}{R:List Int×Tr}{k:Nat}{z:Bl}(hk:k≠0)(h:R=Zp l t key k way no)(hne:Xc l no t=0)(hl:Xp (inB l no)=true)(hm:key∈Yo l no)(h0:trC (Yo l no) key≠0)(hz:trV l no key=z):R=(way++[no],.val z):=by
 obtain⟨d,rfl⟩:∃ d,k=d+1:=⟨k-1,by omega⟩
 rw[h,Zp,if_neg (by rw[hne];decide),if_neg h0,if_pos hl,if_pos hm,hz]
theorem Bq{l:Bl}{t key no:Int}{way:List Int}{R:List Int×Tr}{k:Nat}{z:Bl}(hk:k≠0)(h:R=Zp l t key k way no)(hne:Xc l no t=0)(hl:Xp (inB l no)=false)(h0:trC (Yo l no) key≠0)(hz:trV l no key=z)(hr:Xj z≠0):R=(way++[no],.bad (way++[no]) (Xj z)):=by
 obtain⟨d,rfl⟩:∃ d,k=d+1:=⟨k-1,by omega⟩
 rw[h,Zp,if_neg (by rw[hne];decide),if_neg h0,if_neg (by rw[hl];decide),hz,if_pos hr]
theorem Er{l:Bl}{t key no:Int}{way:List Int}{R:List Int×Tr}{k d:Nat}{z:Bl}(hk:k=d+1)(h:R=Zp l t key k way no)(hne:Xc l no t=0)(hl:Xp (inB l no)=false)(h0:trC (Yo l no) key≠0)(hz:trV l no key=z)(hr:Xj z=0):R=Zp l t key d (way++[no]) (Xm z:Int):=by
 subst hk
 rw[h,Zp,if_neg (by rw[hne];decide),if_neg h0,if_neg (by rw[hl];decide),hz,if_neg (fun q=>q hr)]
theorem trE_v{g:Bl→Int}{w:List Int}{z:Bl}(h:g z≠0):trE g (w,.val z)=(w,g z):=if_pos h
theorem trE_v0{g:Bl→Int}{w:List Int}{z:Bl}(h:g z=0):trE g (w,.val z)=([],0):=if_neg fun q=>q h
theorem node_ap{l:Bl}{no tree:Int}{base n size:Nat}{ty:TypeId}{v:Value}{xs:List Value}{V:World}{e:Ending}{w':World}(k:V.ownsRow base ty size v n xs)(h:Zap l no tree V e w') :
 (Xc l no tree≠0∧∃ b,e=.returned (.tuple #[.agg #[V0 0,.bool false,S0,S0],.iface 256 (P0 b)])∧Below V.heap.size V w'∧Va w' [some no] (some (Xc l no tree)) (.iface 256 (P0 b))) ∨
 (Xc l no tree=0∧∃ kp kc vp vc,e=.returned (.tuple #[.agg #[V0 (Qm (inB l no)),.bool (Xp (inB l no)),.slice kp (Zt (inB l no)) kc,.slice vp (Zt (inB l no)) vc],.nilIface])∧Below V.heap.size V w' ∧
 w'.ownsRow V.heap.size 3 1 (.slice kp (Zt (inB l no)) kc) (Zt (inB l no)) ((Yo l no).map V0)∧w'.ownsRow V.heap.size 9 1 (.slice vp (Zt (inB l no)) vc) (Zt (inB l no)) ((Yx l no).map sv)∧Jt v (.slice kp (Zt (inB l no)) kc)):=by
 rcases h with ⟨h1,b,h2,h3,h4⟩|⟨h1,kp,kc,vp,vc,h2,h3,h4,h5⟩
 ·exact .inl ⟨h1,b,h2,h3,h4⟩
 ·exact .inr ⟨h1,kp,kc,vp,vc,h2,h3,h4,h5,Jt.of_lt k h4 (Nat.le_refl _)⟩
theorem only_w1{w w':World}(h:Zd [3] w w'):Zd [66,3,32] w w':=h.mono fun t ht=>by
 simp only[List.contains_cons,List.contains_nil,Bool.or_eq_false_iff] at ht ⊢
 exact⟨ht.2.1,trivial⟩
theorem only_w2{w w':World}(h:Zd [37] w w'):Zd [66,3,32,37] w w':=h.mono fun t ht=>by
 simp only[List.contains_cons,List.contains_nil,Bool.or_eq_false_iff] at ht ⊢
 exact⟨ht.2.2.2.1,trivial⟩
theorem Cb{w w':World}(h:Zd [66,3,32] w w'):Zd [66,3,32,37] w w':=h.mono fun t ht=>by
 simp only[List.contains_cons,List.contains_nil,Bool.or_eq_false_iff] at ht ⊢
 exact⟨ht.1,ht.2.1,ht.2.2.1,trivial⟩
theorem Ck(w:World)(c:Int):Va w (([]:List Int).map some) (some c) (.iface 89 (V0 c)):=rfl
theorem tr_all1(B br:Nat)(s:Bl)(x:Int)(rv:Value)(rn:Nat)(rx:List Value)(w:World)(hs:s.length≤1000)(kr:Blk w br [V0 x] 3)(hBr:B≤br)(hBw:B≤w.heap.size)(hrow:w.ownsRow B 3 1 rv rn rx)(hsr:∀ j,rv.ownBlock=some j→j≠br) :
 C0 48 #[.string ⟨s.toArray⟩,P0 br] w (All1P B br s rv rn rx w):=by
 refine zin 10 Tryz.func48 ?_
 refine xr 8 (args:=#[.string ⟨s.toArray⟩]) (Yv s _ hs) fun W1 a1=>?_
 have a0:=kr.below a1
 refine xs 3 a0 [V0 (↑(Xm s):Int)] fun W2 u2 k2=>?_
 have hB:=u2.below (blB (Below.refl B w) hBw a1) hBr
 have hO:=(show Zd [3] w _ from(Zd.of_below a1)).trans (Zd.of_upd u2 a0 (by decide))
 exact xe 10 (V0 (Xj s)) ⟨rfl,hB,hO,k2,((a1.but _).upd u2).own3 hrow hsr⟩
theorem tr_all2(B br:Nat)(s:Bl)(w:World)(hs:s.length≤1000)(kr:Blk w br [S0,.bool false,V0 0,V0 0] 37)(hBr:B≤br)(hBw:B≤w.heap.size) :
 C0 50 #[.string ⟨s.toArray⟩,P0 br] w (All2P B br s w):=by
 refine zin 16 Tryz.func50 ?_
 refine xr 8 (args:=#[.string ⟨s.toArray⟩]) (Bg s _ hs) fun W1 a1=>?_
 have a0:=kr.below a1
 refine xs 5 a0 [S0,.bool false,V0 (↑(Uk s):Int),V0 0] fun W2 u2 k2=>?_
 refine xs 1 k2 [S0,.bool false,V0 (↑(Uk s):Int),V0 (↑(Pb s):Int)] fun W3 u3 k3=>?_
 refine xs 8 k3 [S0,.bool ((Xk Vm s)==(0:Int)),V0 (↑(Uk s):Int),V0 (↑(Pb s):Int)] fun W4 u4 k4=>?_
 have hB:=u4.below (u3.below (u2.below (blB (Below.refl B w) hBw a1) hBr) hBr) hBr
 have hO:=(((show Zd [37] w _ from(Zd.of_below a1)).trans (Zd.of_upd u2 a0 (by decide))).trans (Zd.of_upd u3 k2 (by decide))).trans (Zd.of_upd u4 k3 (by decide))
 exact xe 9 (V0 (Xk Vm s)) ⟨rfl,hB,hO,k4,(((a1.but _).upd u2).upd u3).upd u4⟩
theorem tr_find1(B Bi b bx br:Nat)(p:O0)(n c:Nat)(l:Bl)(key no0:Int)(way0:List Int)(pw0:O0)(cw0:Nat)(w:World)(hBx:B≤bx)(hBr:B≤br)(hBw:B≤w.heap.size)(kx:Blk w bx [P0 b,.slice pw0 way0.length cw0] 66)(kr:Blk w br [V0 0] 3)(hway:w.ownsRow B 3 1 (.slice pw0 way0.length cw0) way0.length (way0.map V0))(hI:ImgR Bi b p n c l w)(hwl:way0.length≤100000)(hsep0:∀ j,(Value.slice pw0 way0.length cw0).ownBlock=some j→j≠br) :
 C0 47 #[P0 bx,V0 no0,V0 1,V0 key,.func (.func 48) #[] #[P0 br]] w (Zbg Xj ((fun r=>[Value.int .i64 (trR r)]) (Zp l 1 key 16 way0 no0)) 3 (Zp l 1 key 16 way0 no0) [66,3,32] (fun _ _=>True) B bx br (P0 b) w):=by
 refine zin 98 Tryz.func47 ?_
 have hB:=Below.refl B w
 refine zl 11 98 (fun zm q3 V=>∃ (i:Nat) (no:Int) (b8:List Int) (pw:O0) (cw:Nat),q3=[(0,P0 bx),(1,V0 no),(2,V0 1),(3,V0 key),(4,.func (.func 48) #[] #[P0 br]),(11,V0 (i:Int))]∧zm=16-((i:Int)).toNat∧Below B w V∧Zd [66,3,32] w V∧Blk V bx ([P0 b,.slice pw b8.length cw]) 66∧Blk V br ([V0 0]) 3∧ImgR Bi b p n c l V∧V.ownsRow B 3 1 (.slice pw b8.length cw) b8.length (b8.map V0)∧(∀ j,(Value.slice pw b8.length cw).ownBlock=some j→j≠br)∧i≤16∧b8.length≤100000+i∧(Zp l 1 key 16 way0 no0)=Zp l 1 key (16-i) b8 no) ⟨0,no0,way0,pw0,cw0,rfl,rfl,hB,(Zd.refl _ _),kx,kr,hI,hway,?_,by decide,by omega,rfl⟩ ?_
 ·exact hsep0
 rintro _ _ W1 ⟨i,no,b8,pw,cw,rfl,rfl,c2,b0,c7,e0,hI,hway,b4,hi,hwl,d5⟩ J1 p9 r1
 refine xid 9 ((i:Int)≥(16:Int)) (fun q4=>?_) (fun q4=>?_)
 ·refine xc 5 (args:=#[V0 no,.iface 89 (V0 10)]) (Yn no (some 10) [] _ _ rfl) ?_
  rintro _ W3 ⟨r3,rfl,l3,o6⟩
  rw[Qa] at o6
  obtain⟨t3,x3,rfl⟩:=o6.iface
  have c3:=Zb hway l3
  have d1:=c7.below l3
  refine xc 0 (args:=#[P0 bx,.iface t3 (x3)]) (Yu bx _ _ _ b8 [no] 10 _ _ _ d1 (Zf c3) (fun b n5 x q=>by have q2:=c3;rw[q] at q2;exact(q2.lt b rfl).2) o6 (by first|omega|(simp;omega))) ?_
  rintro _ W4 ⟨g5,x9,rfl,j5,d6⟩
  have i4:=Zb c3 j5
  have g3:=d1.below j5
  have g1:=(e0.below l3).below j5
  have o2:=blB (blB c2 hBw l3) hBw j5
  have o1:=(b0.trans (Zd.of_below l3)).trans (Zd.of_below j5)
  refine xe 9 (.iface g5 (x9)) ?_
  have hR:=Ak (by omega) d5
  rw[hR]
  exact .inl ⟨(show(10:Int)≠0 by decide),_,_,_,_,rfl,o2,o1,trivial,g3,i4,g1,d6⟩
 refine xb 7 0 c7 ?_
 refine xc 2 (args:=#[P0 b,V0 no,V0 1]) ((Ni Bi b p n c l no 1 _ hI).mono (fun _ _ h=>node_ap hway h)) ?_
 rintro e W5 q9
 rcases q9 with ⟨c5,bf,rfl,b3,q7⟩|⟨c5,kp,kc,vp,vc,rfl,b3,hk,p8,h3⟩
 ·refine xa 3 [V0 0,.bool false,S0,S0] 183 fun b6 W6 n6=>?_
  have j7:=blB c2 hBw b3
  have g6:=n6.ge0 j7
  refine xsv 0 n6.blk [V0 0,.bool false,S0,S0] fun W7 u7 k7=>?_
  have k8:=(q7.below n6.below).upd u7 n6.blk (by decide)
  have c1:=u7.own2 (Zb (Zb hway b3) n6.below) n6.blk (by decide)
  have c8:=u7.blkT ((c7.below b3).below n6.below) n6.blk (by decide)
  refine xc 15 (args:=#[P0 bx,.iface 256 (P0 bf)]) (Yu bx _ _ _ b8 [no] (Xc l no 1) _ _ _ c8 (Zf c1) (fun b n5 x q=>by have q2:=c1;rw[q] at q2;exact(q2.lt b rfl).2) k8 (by first|omega|(simp;omega))) ?_
  rintro _ W8 ⟨g5,x9,rfl,l5,d6⟩
  have i3:=Zb c1 l5
  have f7:=c8.below l5
  have g2:=(u7.blkT ((e0.below b3).below n6.below) n6.blk (by decide)).below l5
  have o9:=blB (u7.below (blB j7 hBw n6.below) (Nat.le_trans hBw g6)) hBw l5
  have n7:=(Zd.upd_new ((b0.trans (Zd.of_below b3)).trans (Zd.of_below n6.below)) u7 g6).trans (Zd.of_below l5)
  refine xe 9 (.iface g5 (x9)) ?_
  have hR:=Zcz (show 16-i≠0 by omega) d5 c5
  rw[hR]
  exact .inl ⟨c5,_,_,_,_,rfl,o9,n7,trivial,f7,i3,g2,d6⟩
 have q5:=En l no
 have i9:(Yx l no).length=(Zt (inB l no)):=by simp[Yx,Hz]
 have s5:(Zt (inB l no))≤18:=Nat.le_trans (Uq (Ma (Ul (Pv c5).2))) (Zdp _ _)
 refine xa 3 [V0 0,.bool false,S0,S0] 183 fun b9 W9 n9=>?_
 have m1:=blB c2 hBw b3
 have g9:=n9.ge0 m1
 refine xsv 0 n9.blk [V0 (Qm (inB l no)),.bool (Xp (inB l no)),.slice kp (Zt (inB l no)) kc,.slice vp (Zt (inB l no)) vc] fun s2 b7 q6=>?_
 have c9:=b7.blkT ((c7.below b3).below n9.below) n9.blk (by decide)
 refine xb 19 1 c9 ?_
 refine xbs 1 1 [V0 no] 3 fun q8 s4 a8=>?_
 have d4:=b7.blkT ((e0.below b3).below n9.below) n9.blk (by decide)
 have p4:=a8.ne d4
 have k3:=b7.below (blB m1 hBw n9.below) (Nat.le_trans hBw g9)
 have r2:=a8.ge0 k3
 have e2:=b7.own2 (Zb (Zb hway b3) n9.below) n9.blk (by decide)
 have m7:=Zu e2 a8
 have l2:=b7.own2 (Zb (Zh hk c2.size) n9.below) n9.blk (by decide)
 have o5:=Zu l2 a8
 have a4:=d4.below a8.below
 have q1:=a4.lt
 have a2:=Zb e2 a8.below
 have b5:=blB k3 hBw a8.below
 refine xbi 0 fun _ _ _ _ zJ zQ zo zx zy zK=>Ud (b:=q8) (c:=1) (m:=1) (news:=[V0 no]) (V0 0) 1 8 ((b8++[no]).length) (((b8++[no]).map V0)) zo Tryz.underlying35 (by kernel_rfl) rfl (by decide) zx a2 zy a8.blk rfl (by simp[Value.oneCell']) (by unfold maxLen;omega) (by omega) (Nat.le_trans hBw b5.size) (by simp) (by simp) fun l1 j6 r8 f9 a3 c0 l0=>?_
 have l7:=Zb l2 a8.below
 have i8:=h3.row l7 a3
 replace h3:=(h3.grow l7 l0)
 have n1:=i8
 refine zK _ _ ?_
 have a0:=(c9.below a8.below).grown a3 a2 (by decide)
 refine xs 2 a0 [P0 b,.slice l1 ((b8++[no]).length) j6] fun r6 a6 f2=>?_
 have e9:=a6.blkT ((q6.below a8.below).grown a3 a2 (by decide)) a0 (by decide)
 refine xb 5 2 e9 ?_
 have e3:∀ j,(Value.slice l1 ((b8++[no]).length) j6).ownBlock=some j→j≠br:=fun j hj=>l0.elim (fun e=>b4 j (e▸hj)) (fun e=>by rw[e] at hj;cases hj;omega)
 have p6:=a6.own2 n1 a0 (by decide)
 refine xc 1 (args:=#[.slice kp (Zt (inB l no)) kc,V0 key]) (Ic key _ q5 (by omega) (Lk c5) p6) ?_
 rintro e r7 n8
 rcases n8 with ⟨hm,cc,d2,r0,rfl,a1⟩|⟨hm,d2,rfl,a1⟩|⟨hm,cc,d2,r0,rfl,a1⟩
 ·refine xg 23 [63,64] (decide ((cc:Int)<(0:Int))) (fun c6=>?_) (fun c6=>?_)
  ·have c6:=of_decide_eq_true c6
   have h7:=c6
   have m6:=Zb (a6.own2 f9 a0 (by decide)) a1
   have n4:=f2.below a1
   have g0:=(a6.blk (a4.grown3 a3 b4) (Ne.symm (by rintro rfl;exact absurd (Blk.ty kx kr) (by decide)))).below a1
   have o4:=blB (a6.below (b5.trans c0) hBx) hBw a1
   have p5:=((((Zd.upd_new ((b0.trans (Zd.of_below b3)).trans (Zd.of_below n9.below)) b7 g9).trans (Zd.of_below a8.below)).trans (Zd.of_grown a3 a2 (by decide))).trans (Zd.of_upd a6 a0 (by decide))).trans (Zd.of_below a1)
   refine xe 21 .nilIface ?_
   first|(exfalso;omega)|(have hR:=Hf (show 16-i≠0 by omega) d5 c5 (by omega);rw[hR];exact .inr ⟨rfl,_,_,rfl,o4,p5,trivial,n4,m6,g0⟩)
  have c6:=of_decide_eq_false c6
  have h7:=c6
  have b2:=e9.below a1
  refine xb 1 1 b2 ?_
  refine xg 1 [66,67] (Xp (inB l no)) (fun i5=>?_) (fun i5=>?_)
  ·have a5:Xp (inB l no)=true:=i5
   refine xb 18 1 b2 ?_
   refine xk 2 (show((Xp (inB l no)):Bool)=true from a5) ?_
   refine xb 3 3 b2 ?_
   have g8:=Zb (a6.own2 (Zr (Zb (b7.own2 (Zb (Zh p8 c2.size) n9.below) n9.blk (by decide)) a8.below) a3 a2 (by decide)) a0 (by decide)) a1
   refine xx 1 _ (Zt (inB l no)) cc 1 (Strs.elem (Zf g8) i9 (k:=cc) (by omega)).1 ?_
   refine xl 0 ((Strs.elem (Zf g8) i9 (k:=cc) (by omega)).2) ?_
   have f5:=(a6.blk (a4.grown3 a3 b4) (Ne.symm (by rintro rfl;exact absurd (Blk.ty kx kr) (by decide)))).below a1
   have n3:=Zb (a6.own2 f9 a0 (by decide)) a1
   have h8:=blB (a6.below (b5.trans c0) hBx) hBw a1
   refine xc 0 (args:=#[.string ⟨((Yx l no).getD cc []).toArray⟩,P0 br]) (tr_all1 B br ((Yx l no).getD cc []) 0 _ _ _ _ (Vi _ _ _) f5 hBr (Nat.le_trans hBw h8.size) n3 e3) ?_
   rintro _ s0 ⟨rfl,k9,e5,q0,d0⟩
   refine xin 10 (Xj ((Yx l no).getD cc [])) (0:Int) (fun h6=>?_) (fun h6=>?_)
   ·have a7:=h6
    have g7:=(f2.below a1).only e5 (by decide)
    refine xc 5 (args:=#[P0 bx,.iface 89 (V0 (Xj ((Yx l no).getD cc [])))]) (Yu bx _ _ _ (b8++[no]) [] _ _ _ _ g7 (Zf d0) (fun b n5 x q=>by have q2:=d0;rw[q] at q2;exact(q2.lt b rfl).2) (Ck _ _) (by first|omega|(simp;omega))) ?_
    rintro _ s1 ⟨g5,x9,rfl,d8,d6⟩
    rw[List.append_nil] at d6
    have f3:=Zb d0 d8
    have m8:=g7.below d8
    have j1:=q0.below d8
    have o7:=blB (h8.trans k9) hBw d8
    have o0:=((((((Zd.upd_new ((b0.trans (Zd.of_below b3)).trans (Zd.of_below n9.below)) b7 g9).trans (Zd.of_below a8.below)).trans (Zd.of_grown a3 a2 (by decide))).trans (Zd.of_upd a6 a0 (by decide))).trans (Zd.of_below a1)).trans (only_w1 e5)).trans (Zd.of_below d8)
    refine xe 9 (.iface g5 (x9)) ?_
    have hR:=Bd (show 16-i≠0 by omega) d5 c5 a5 hm (by omega) (show trV l no key=(Yx l no).getD cc [] from by unfold trV Yx;first|(rw[d2,Nat.add_sub_cancel])|rw[d2])
    rw[hR]
    unfold Zbg
    rw[trE_v a7]
    exact .inl ⟨a7,_,_,_,_,rfl,o7,o0,trivial,m8,f3,j1,d6⟩
   have a7:=h6
   have n2:=b2.only e5 (by decide)
   refine xb 5 1 n2 ?_
   refine xk 2 (show((Xp (inB l no)):Bool)=true from a5) ?_
   have j9:=(f2.below a1).only e5 (by decide)
   have k5:=h8.trans k9
   have p0:=(((((Zd.upd_new ((b0.trans (Zd.of_below b3)).trans (Zd.of_below n9.below)) b7 g9).trans (Zd.of_below a8.below)).trans (Zd.of_grown a3 a2 (by decide))).trans (Zd.of_upd a6 a0 (by decide))).trans (Zd.of_below a1)).trans (only_w1 e5)
   refine xe 10 .nilIface ?_
   have hR:=Bd (show 16-i≠0 by omega) d5 c5 a5 hm (by omega) (show trV l no key=(Yx l no).getD cc [] from by unfold trV Yx;first|(rw[d2,Nat.add_sub_cancel])|rw[d2])
   rw[hR]
   unfold Zbg
   rw[trE_v0 (by first|exact a7|exact Decidable.not_not.1 a7|omega)]
   exact .inr ⟨rfl,_,_,rfl,k5,p0,trivial,j9,d0,q0⟩
  have a5:Xp (inB l no)=false:=i5
  refine xb 18 1 b2 ?_
  refine xk 2 (show((Xp (inB l no)):Bool)=false from a5) ?_
  refine xb 2 3 b2 ?_
  have h0:=Zb (a6.own2 (Zr (Zb (b7.own2 (Zb (Zh p8 c2.size) n9.below) n9.blk (by decide)) a8.below) a3 a2 (by decide)) a0 (by decide)) a1
  refine xx 1 _ (Zt (inB l no)) cc 1 (Strs.elem (Zf h0) i9 (k:=cc) (by omega)).1 ?_
  refine xl 0 ((Strs.elem (Zf h0) i9 (k:=cc) (by omega)).2) ?_
  refine xr 0 (args:=#[.string ⟨((Yx l no).getD cc []).toArray⟩]) (Yv ((Yx l no).getD cc []) _ (Vi _ _ _)) fun r5 a9=>?_
  refine xin 14 (Xj ((Yx l no).getD cc [])) (0:Int) (fun i6=>?_) (fun i6=>?_)
  ·have a7:=i6
   have e6:=Zb (Zb (a6.own2 f9 a0 (by decide)) a1) a9
   have h1:=(f2.below a1).below a9
   refine xc 5 (args:=#[P0 bx,.iface 89 (V0 (Xj ((Yx l no).getD cc [])))]) (Yu bx _ _ _ (b8++[no]) [] _ _ _ _ h1 (Zf e6) (fun b n5 x q=>by have q2:=e6;rw[q] at q2;exact(q2.lt b rfl).2) (Ck _ _) (by first|omega|(simp;omega))) ?_
   rintro _ r9 ⟨g5,x9,rfl,f1,d6⟩
   rw[List.append_nil] at d6
   have l8:=Zb e6 f1
   have j8:=h1.below f1
   have f8:=(((a6.blk (a4.grown3 a3 b4) (Ne.symm (by rintro rfl;exact absurd (Blk.ty kx kr) (by decide)))).below a1).below a9).below f1
   have l6:=blB (blB (blB (a6.below (b5.trans c0) hBx) hBw a1) hBw a9) hBw f1
   have o3:=((((((Zd.upd_new ((b0.trans (Zd.of_below b3)).trans (Zd.of_below n9.below)) b7 g9).trans (Zd.of_below a8.below)).trans (Zd.of_grown a3 a2 (by decide))).trans (Zd.of_upd a6 a0 (by decide))).trans (Zd.of_below a1)).trans (Zd.of_below a9)).trans (Zd.of_below f1)
   refine xe 9 (.iface g5 (x9)) ?_
   have hR:=Bq (show 16-i≠0 by omega) d5 c5 a5 (by omega) (show trV l no key=(Yx l no).getD cc [] from by unfold trV Yx;first|(rw[d2,Nat.add_sub_cancel])|rw[d2]) a7
   rw[hR]
   exact .inl ⟨a7,_,_,_,_,rfl,l6,o3,trivial,j8,l8,f8,d6⟩
  have a7:=i6
  have m0:=b2.below a9
  refine xb 5 1 m0 ?_
  refine xk 2 (show((Xp (inB l no)):Bool)=false from a5) ?_
  refine xwm 5 ((i:Int)+1) (↑(i+1):Int) ?_
  have n0:=Zb (Zb (a6.own2 f9 a0 (by decide)) a1) a9
  have m3:=blB (blB (a6.below (b5.trans c0) hBx) hBw a1) hBw a9
  have p2:=(((((Zd.upd_new ((b0.trans (Zd.of_below b3)).trans (Zd.of_below n9.below)) b7 g9).trans (Zd.of_below a8.below)).trans (Zd.of_grown a3 a2 (by decide))).trans (Zd.of_upd a6 a0 (by decide))).trans (Zd.of_below a1)).trans (Zd.of_below a9)
  have m9:=(f2.below a1).below a9
  have f6:=((a6.blk (a4.grown3 a3 b4) (Ne.symm (by rintro rfl;exact absurd (Blk.ty kx kr) (by decide)))).below a1).below a9
  have p3:=(((((((hI.below b3).below n9.below).only (Zd.of_upd (T:=[183]) b7 n9.blk (by decide)) (by decide)).below a8.below).only (Zd.of_grown (T:=[3]) a3 a2 (by decide)) (by decide)).only (Zd.of_upd (T:=[66]) a6 a0 (by decide)) (by decide)).below a1).below a9
  exact ze 2 (p9 _ _ _ ⟨i+1,_,(b8++[no]),_,_,rfl,rfl,m3,p2,m9,f6,p3,n0,e3,by omega,by simp;omega,Er (by omega) d5 c5 a5 (by omega) (show trV l no key=(Yx l no).getD cc [] from by unfold trV Yx;first|(rw[d2,Nat.add_sub_cancel])|rw[d2]) (by first|exact a7|exact Decidable.not_not.1 a7)⟩ (by omega))
 ·have j0:=Zb (a6.own2 f9 a0 (by decide)) a1
  have k6:=f2.below a1
  have f4:=(a6.blk (a4.grown3 a3 b4) (Ne.symm (by rintro rfl;exact absurd (Blk.ty kx kr) (by decide)))).below a1
  have l4:=blB (a6.below (b5.trans c0) hBx) hBw a1
  have o8:=((((Zd.upd_new ((b0.trans (Zd.of_below b3)).trans (Zd.of_below n9.below)) b7 g9).trans (Zd.of_below a8.below)).trans (Zd.of_grown a3 a2 (by decide))).trans (Zd.of_upd a6 a0 (by decide))).trans (Zd.of_below a1)
  refine xe 48 .nilIface ?_
  first|(exfalso;omega)|(have hR:=Hf (show 16-i≠0 by omega) d5 c5 (by omega);rw[hR];exact .inr ⟨rfl,_,_,rfl,l4,o8,trivial,k6,j0,f4⟩)
 refine xwm 17 ((↑(cc+1):Int)-1) (↑((cc+1)-1):Int) ?_
 refine xg 9 [63,64] (decide ((↑((cc+1)-1):Int)<(0:Int))) (fun c4=>?_) (fun c4=>?_)
 ·have c4:=of_decide_eq_true c4
  have h7:=c4
  have m5:=Zb (a6.own2 f9 a0 (by decide)) a1
  have l9:=f2.below a1
  have e4:=(a6.blk (a4.grown3 a3 b4) (Ne.symm (by rintro rfl;exact absurd (Blk.ty kx kr) (by decide)))).below a1
  have j4:=blB (a6.below (b5.trans c0) hBx) hBw a1
  have p7:=((((Zd.upd_new ((b0.trans (Zd.of_below b3)).trans (Zd.of_below n9.below)) b7 g9).trans (Zd.of_below a8.below)).trans (Zd.of_grown a3 a2 (by decide))).trans (Zd.of_upd a6 a0 (by decide))).trans (Zd.of_below a1)
  refine xe 21 .nilIface ?_
  first|(exfalso;omega)|(have hR:=Hf (show 16-i≠0 by omega) d5 c5 (by omega);rw[hR];exact .inr ⟨rfl,_,_,rfl,j4,p7,trivial,l9,m5,e4⟩)
 have c4:=of_decide_eq_false c4
 have h7:=c4
 have d3:=e9.below a1
 refine xb 1 1 d3 ?_
 refine xg 1 [66,67] (Xp (inB l no)) (fun i0=>?_) (fun i0=>?_)
 ·have a5:Xp (inB l no)=true:=i0
  have k0:=Zb (a6.own2 f9 a0 (by decide)) a1
  have h5:=f2.below a1
  have d7:=(a6.blk (a4.grown3 a3 b4) (Ne.symm (by rintro rfl;exact absurd (Blk.ty kx kr) (by decide)))).below a1
  have k4:=blB (a6.below (b5.trans c0) hBx) hBw a1
  have j3:=((((Zd.upd_new ((b0.trans (Zd.of_below b3)).trans (Zd.of_below n9.below)) b7 g9).trans (Zd.of_below a8.below)).trans (Zd.of_grown a3 a2 (by decide))).trans (Zd.of_upd a6 a0 (by decide))).trans (Zd.of_below a1)
  refine xe 18 .nilIface ?_
  have hR:=So (show 16-i≠0 by omega) d5 c5 a5 hm
  rw[hR]
  exact .inr ⟨rfl,_,_,rfl,k4,j3,trivial,h5,k0,d7⟩
 have a5:Xp (inB l no)=false:=i0
 refine xb 18 1 d3 ?_
 refine xk 2 (show((Xp (inB l no)):Bool)=false from a5) ?_
 refine xb 2 3 d3 ?_
 have h2:=Zb (a6.own2 (Zr (Zb (b7.own2 (Zb (Zh p8 c2.size) n9.below) n9.blk (by decide)) a8.below) a3 a2 (by decide)) a0 (by decide)) a1
 refine xx 1 _ (Zt (inB l no)) ((cc+1)-1) 1 (Strs.elem (Zf h2) i9 (k:=((cc+1)-1)) (by omega)).1 ?_
 refine xl 0 ((Strs.elem (Zf h2) i9 (k:=((cc+1)-1)) (by omega)).2) ?_
 refine xr 0 (args:=#[.string ⟨((Yx l no).getD ((cc+1)-1) []).toArray⟩]) (Yv ((Yx l no).getD ((cc+1)-1) []) _ (Vi _ _ _)) fun s3 b1=>?_
 refine xin 14 (Xj ((Yx l no).getD ((cc+1)-1) [])) (0:Int) (fun h4=>?_) (fun h4=>?_)
 ·have a7:=h4
  have d9:=Zb (Zb (a6.own2 f9 a0 (by decide)) a1) b1
  have e7:=(f2.below a1).below b1
  refine xc 5 (args:=#[P0 bx,.iface 89 (V0 (Xj ((Yx l no).getD ((cc+1)-1) [])))]) (Yu bx _ _ _ (b8++[no]) [] _ _ _ _ e7 (Zf d9) (fun b n5 x q=>by have q2:=d9;rw[q] at q2;exact(q2.lt b rfl).2) (Ck _ _) (by first|omega|(simp;omega))) ?_
  rintro _ r4 ⟨g5,x9,rfl,e8,d6⟩
  rw[List.append_nil] at d6
  have i1:=Zb d9 e8
  have i2:=e7.below e8
  have e1:=(((a6.blk (a4.grown3 a3 b4) (Ne.symm (by rintro rfl;exact absurd (Blk.ty kx kr) (by decide)))).below a1).below b1).below e8
  have m2:=blB (blB (blB (a6.below (b5.trans c0) hBx) hBw a1) hBw b1) hBw e8
  have k1:=((((((Zd.upd_new ((b0.trans (Zd.of_below b3)).trans (Zd.of_below n9.below)) b7 g9).trans (Zd.of_below a8.below)).trans (Zd.of_grown a3 a2 (by decide))).trans (Zd.of_upd a6 a0 (by decide))).trans (Zd.of_below a1)).trans (Zd.of_below b1)).trans (Zd.of_below e8)
  refine xe 9 (.iface g5 (x9)) ?_
  have hR:=Bq (show 16-i≠0 by omega) d5 c5 a5 (by omega) (show trV l no key=(Yx l no).getD ((cc+1)-1) [] from by unfold trV Yx;first|(rw[d2,Nat.add_sub_cancel])|rw[d2]) a7
  rw[hR]
  exact .inl ⟨a7,_,_,_,_,rfl,m2,k1,trivial,i2,i1,e1,d6⟩
 have a7:=h4
 have m4:=d3.below b1
 refine xb 5 1 m4 ?_
 refine xk 2 (show((Xp (inB l no)):Bool)=false from a5) ?_
 refine xwm 5 ((i:Int)+1) (↑(i+1):Int) ?_
 have i7:=Zb (Zb (a6.own2 f9 a0 (by decide)) a1) b1
 have k2:=blB (blB (a6.below (b5.trans c0) hBx) hBw a1) hBw b1
 have j2:=(((((Zd.upd_new ((b0.trans (Zd.of_below b3)).trans (Zd.of_below n9.below)) b7 g9).trans (Zd.of_below a8.below)).trans (Zd.of_grown a3 a2 (by decide))).trans (Zd.of_upd a6 a0 (by decide))).trans (Zd.of_below a1)).trans (Zd.of_below b1)
 have h9:=(f2.below a1).below b1
 have f0:=((a6.blk (a4.grown3 a3 b4) (Ne.symm (by rintro rfl;exact absurd (Blk.ty kx kr) (by decide)))).below a1).below b1
 have p1:=(((((((hI.below b3).below n9.below).only (Zd.of_upd (T:=[183]) b7 n9.blk (by decide)) (by decide)).below a8.below).only (Zd.of_grown (T:=[3]) a3 a2 (by decide)) (by decide)).only (Zd.of_upd (T:=[66]) a6 a0 (by decide)) (by decide)).below a1).below b1
 exact ze 2 (p9 _ _ _ ⟨i+1,_,(b8++[no]),_,_,rfl,rfl,k2,j2,h9,f0,p1,i7,e3,by omega,by simp;omega,Er (by omega) d5 c5 a5 (by omega) (show trV l no key=(Yx l no).getD ((cc+1)-1) [] from by unfold trV Yx;first|(rw[d2,Nat.add_sub_cancel])|rw[d2]) (by first|exact a7|exact Decidable.not_not.1 a7)⟩ (by omega))
theorem tr_find2(B Bi b bx br:Nat)(p:O0)(n c:Nat)(l:Bl)(key no0:Int)(way0:List Int)(pw0:O0)(cw0:Nat)(w:World)(hBx:B≤bx)(hBr:B≤br)(hBw:B≤w.heap.size)(kx:Blk w bx [P0 b,.slice pw0 way0.length cw0] 66)(kr:Blk w br [S0,.bool false,V0 0,V0 0] 37)(hway:w.ownsRow B 3 1 (.slice pw0 way0.length cw0) way0.length (way0.map V0))(hI:ImgR Bi b p n c l w)(hwl:way0.length≤100000) :
 C0 47 #[P0 bx,V0 no0,V0 2,V0 key,.func (.func 50) #[] #[P0 br]] w (Zbg (Xk Vm) (trM (Zp l 2 key 16 way0 no0)) 37 (Zp l 2 key 16 way0 no0) [66,3,32,37] (KeepD br) B bx br (P0 b) w):=by
 have d6:=KeepD.refl br w
 refine zin 98 Tryz.func47 ?_
 have hB:=Below.refl B w
 refine zl 11 98 (fun zm r5 V=>∃ (i:Nat) (no:Int) (b8:List Int) (pw:O0) (cw:Nat),r5=[(0,P0 bx),(1,V0 no),(2,V0 2),(3,V0 key),(4,.func (.func 50) #[] #[P0 br]),(11,V0 (i:Int))]∧zm=16-((i:Int)).toNat∧Below B w V∧Zd [66,3,32,37] w V∧Blk V bx ([P0 b,.slice pw b8.length cw]) 66∧Blk V br ([S0,.bool false,V0 0,V0 0]) 37∧ImgR Bi b p n c l V∧V.ownsRow B 3 1 (.slice pw b8.length cw) b8.length (b8.map V0)∧KeepD br w V∧i≤16∧b8.length≤100000+i∧(Zp l 2 key 16 way0 no0)=Zp l 2 key (16-i) b8 no) ⟨0,no0,way0,pw0,cw0,rfl,rfl,hB,(Zd.refl _ _),kx,kr,hI,hway,d6,by decide,by omega,rfl⟩ ?_
 rintro _ _ W1 ⟨i,no,b8,pw,cw,rfl,rfl,c1,b3,c8,b0,hI,hway,d6,hi,hwl,d8⟩ J1 r2 r1
 refine xid 9 ((i:Int)≥(16:Int)) (fun r6=>?_) (fun r6=>?_)
 ·refine xc 5 (args:=#[V0 no,.iface 89 (V0 10)]) (Yn no (some 10) [] _ _ rfl) ?_
  rintro _ W3 ⟨r3,rfl,j0,p6⟩
  rw[Qa] at p6
  obtain⟨t3,x3,rfl⟩:=p6.iface
  have c2:=Zb hway j0
  have d1:=c8.below j0
  refine xc 0 (args:=#[P0 bx,.iface t3 (x3)]) (Yu bx _ _ _ b8 [no] 10 _ _ _ d1 (Zf c2) (fun b o4 x q=>by have q2:=c2;rw[q] at q2;exact(q2.lt b rfl).2) p6 (by first|omega|(simp;omega))) ?_
  rintro _ W4 ⟨f9,x9,rfl,i9,d9⟩
  have i3:=Zb c2 i9
  have f8:=d1.below i9
  have f5:=(b0.below j0).below i9
  have l4:=(d6.below j0).below i9
  have p0:=blB (blB c1 hBw j0) hBw i9
  have o9:=(b3.trans (Zd.of_below j0)).trans (Zd.of_below i9)
  refine xe 9 (.iface f9 (x9)) ?_
  have hR:=Ak (by omega) d8
  rw[hR]
  exact .inl ⟨(show(10:Int)≠0 by decide),_,_,_,_,rfl,p0,o9,l4,f8,i3,f5,d9⟩
 refine xb 7 0 c8 ?_
 refine xc 2 (args:=#[P0 b,V0 no,V0 2]) ((Ni Bi b p n c l no 2 _ hI).mono (fun _ _ h=>node_ap hway h)) ?_
 rintro e W5 s1
 rcases s1 with ⟨c5,bf,rfl,a7,r9⟩|⟨c5,kp,kc,vp,vc,rfl,a7,hk,r0,g8⟩
 ·refine xa 3 [V0 0,.bool false,S0,S0] 183 fun b6 W6 n6=>?_
  have k0:=blB c1 hBw a7
  have g6:=n6.ge0 k0
  refine xsv 0 n6.blk [V0 0,.bool false,S0,S0] fun W7 u7 k7=>?_
  have l7:=(r9.below n6.below).upd u7 n6.blk (by decide)
  have c0:=u7.own2 (Zb (Zb hway a7) n6.below) n6.blk (by decide)
  have c9:=u7.blkT ((c8.below a7).below n6.below) n6.blk (by decide)
  refine xc 15 (args:=#[P0 bx,.iface 256 (P0 bf)]) (Yu bx _ _ _ b8 [no] (Xc l no 2) _ _ _ c9 (Zf c0) (fun b o4 x q=>by have q2:=c0;rw[q] at q2;exact(q2.lt b rfl).2) l7 (by first|omega|(simp;omega))) ?_
  rintro _ W8 ⟨f9,x9,rfl,j1,d9⟩
  have i2:=Zb c0 j1
  have f3:=c9.below j1
  have f7:=(u7.blkT ((b0.below a7).below n6.below) n6.blk (by decide)).below j1
  have o1:=(((d6.below a7).below n6.below).only (Zd.of_upd (T:=[183]) u7 n6.blk (by decide)) (by decide)).below j1
  have p9:=blB (u7.below (blB k0 hBw n6.below) (Nat.le_trans hBw g6)) hBw j1
  have o5:=(Zd.upd_new ((b3.trans (Zd.of_below a7)).trans (Zd.of_below n6.below)) u7 g6).trans (Zd.of_below j1)
  refine xe 9 (.iface f9 (x9)) ?_
  have hR:=Zcz (show 16-i≠0 by omega) d8 c5
  rw[hR]
  exact .inl ⟨c5,_,_,_,_,rfl,p9,o5,o1,f3,i2,f7,d9⟩
 have r7:=En l no
 have j2:(Yx l no).length=(Zt (inB l no)):=by simp[Yx,Hz]
 have t6:(Zt (inB l no))≤18:=Nat.le_trans (Uq (Ma (Ul (Pv c5).2))) (Zdp _ _)
 refine xa 3 [V0 0,.bool false,S0,S0] 183 fun b9 W9 n9=>?_
 have m7:=blB c1 hBw a7
 have g9:=n9.ge0 m7
 refine xsv 0 n9.blk [V0 (Qm (inB l no)),.bool (Xp (inB l no)),.slice kp (Zt (inB l no)) kc,.slice vp (Zt (inB l no)) vc] fun t2 a8 r8=>?_
 have d0:=a8.blkT ((c8.below a7).below n9.below) n9.blk (by decide)
 refine xb 19 1 d0 ?_
 refine xbs 1 1 [V0 no] 3 fun s0 t5 a6=>?_
 have l0:=a8.below (blB m7 hBw n9.below) (Nat.le_trans hBw g9)
 have s3:=a6.ge0 l0
 have e1:=a8.own2 (Zb (Zb hway a7) n9.below) n9.blk (by decide)
 have n3:=Zu e1 a6
 have l9:=a8.own2 (Zb (Zh hk c1.size) n9.below) n9.blk (by decide)
 have p5:=Zu l9 a6
 have a1:=Zb e1 a6.below
 have b5:=blB l0 hBw a6.below
 refine xbi 0 fun _ _ _ _ zJ zQ zo zx zy zK=>Ud (b:=s0) (c:=1) (m:=1) (news:=[V0 no]) (V0 0) 1 8 ((b8++[no]).length) (((b8++[no]).map V0)) zo Tryz.underlying35 (by kernel_rfl) rfl (by decide) zx a1 zy a6.blk rfl (by simp[Value.oneCell']) (by unfold maxLen;omega) (by omega) (Nat.le_trans hBw b5.size) (by simp) (by simp) fun q5 p3 s8 e8 a3 b7 q3=>?_
 have m2:=Zb l9 a6.below
 have i8:=g8.row m2 a3
 replace g8:=(g8.grow m2 q3)
 have o0:=i8
 refine zK _ _ ?_
 have a0:=(d0.below a6.below).grown a3 a1 (by decide)
 refine xs 2 a0 [P0 b,.slice q5 ((b8++[no]).length) p3] fun s6 a4 e7=>?_
 have e4:=a4.blkT ((r8.below a6.below).grown a3 a1 (by decide)) a0 (by decide)
 refine xb 5 2 e4 ?_
 have q8:=a4.own2 o0 a0 (by decide)
 refine xc 1 (args:=#[.slice kp (Zt (inB l no)) kc,V0 key]) (Ic key _ r7 (by omega) (Lk c5) q8) ?_
 rintro e s7 o6
 rcases o6 with ⟨hm,cc,d2,s2,rfl,a2⟩|⟨hm,d2,rfl,a2⟩|⟨hm,cc,d2,s2,rfl,a2⟩
 ·refine xg 23 [63,64] (decide ((cc:Int)<(0:Int))) (fun c7=>?_) (fun c7=>?_)
  ·have c7:=of_decide_eq_true c7
   have h4:=c7
   have n2:=Zb (a4.own2 e8 a0 (by decide)) a2
   have o3:=e7.below a2
   have g0:=(a4.blk (((a8.blkT ((b0.below a7).below n9.below) n9.blk (by decide)).below a6.below).grown a3 a1 (by decide)) (Ne.symm (by rintro rfl;exact absurd (Blk.ty kx kr) (by decide)))).below a2
   have j8:=((((((d6.below a7).below n9.below).only (Zd.of_upd (T:=[183]) a8 n9.blk (by decide)) (by decide)).below a6.below).only (Zd.of_grown (T:=[3]) a3 a1 (by decide)) (by decide)).only (Zd.of_upd (T:=[66]) a4 a0 (by decide)) (by decide)).below a2
   have p2:=blB (a4.below (b5.trans b7) hBx) hBw a2
   have q7:=((((Zd.upd_new ((b3.trans (Zd.of_below a7)).trans (Zd.of_below n9.below)) a8 g9).trans (Zd.of_below a6.below)).trans (Zd.of_grown a3 a1 (by decide))).trans (Zd.of_upd a4 a0 (by decide))).trans (Zd.of_below a2)
   refine xe 21 .nilIface ?_
   first|(exfalso;omega)|(have hR:=Hf (show 16-i≠0 by omega) d8 c5 (by omega);rw[hR];exact .inr ⟨rfl,_,_,rfl,p2,q7,j8,o3,n2,g0⟩)
  have c7:=of_decide_eq_false c7
  have h4:=c7
  have b4:=e4.below a2
  refine xb 1 1 b4 ?_
  refine xg 1 [66,67] (Xp (inB l no)) (fun i4=>?_) (fun i4=>?_)
  ·have a5:Xp (inB l no)=true:=i4
   refine xb 18 1 b4 ?_
   refine xk 2 (show((Xp (inB l no)):Bool)=true from a5) ?_
   refine xb 3 3 b4 ?_
   have g2:=Zb (a4.own2 (Zr (Zb (a8.own2 (Zb (Zh r0 c1.size) n9.below) n9.blk (by decide)) a6.below) a3 a1 (by decide)) a0 (by decide)) a2
   refine xx 1 _ (Zt (inB l no)) cc 1 (Strs.elem (Zf g2) j2 (k:=cc) (by omega)).1 ?_
   refine xl 0 ((Strs.elem (Zf g2) j2 (k:=cc) (by omega)).2) ?_
   have k9:=((((((d6.below a7).below n9.below).only (Zd.of_upd (T:=[183]) a8 n9.blk (by decide)) (by decide)).below a6.below).only (Zd.of_grown (T:=[3]) a3 a1 (by decide)) (by decide)).only (Zd.of_upd (T:=[66]) a4 a0 (by decide)) (by decide)).below a2
   have f1:=(a4.blk (((a8.blkT ((b0.below a7).below n9.below) n9.blk (by decide)).below a6.below).grown a3 a1 (by decide)) (Ne.symm (by rintro rfl;exact absurd (Blk.ty kx kr) (by decide)))).below a2
   have p4:=k9
   have h5:=blB (a4.below (b5.trans b7) hBx) hBw a2
   refine xc 0 (args:=#[.string ⟨((Yx l no).getD cc []).toArray⟩,P0 br]) (tr_all2 B br ((Yx l no).getD cc []) _ (Vi _ _ _) f1 hBr (Nat.le_trans hBw h5.size)) ?_
   rintro _ t0 ⟨rfl,l8,c3,r4,o8⟩
   have l2:=p4.but o8
   refine xin 10 (Xk Vm ((Yx l no).getD cc [])) (0:Int) (fun h2=>?_) (fun h2=>?_)
   ·have a9:=h2
    have e6:=Zi (Zb (a4.own2 e8 a0 (by decide)) a2) c3 (by decide)
    have g1:=(e7.below a2).only c3 (by decide)
    refine xc 5 (args:=#[P0 bx,.iface 89 (V0 (Xk Vm ((Yx l no).getD cc [])))]) (Yu bx _ _ _ (b8++[no]) [] _ _ _ _ g1 (Zf e6) (fun b o4 x q=>by have q2:=e6;rw[q] at q2;exact(q2.lt b rfl).2) (Ck _ _) (by first|omega|(simp;omega))) ?_
    rintro _ t1 ⟨f9,x9,rfl,d4,d9⟩
    rw[List.append_nil] at d9
    have m5:=Zb e6 d4
    have n5:=g1.below d4
    have j4:=r4.below d4
    have i6:=l2.below d4
    have p7:=blB (h5.trans l8) hBw d4
    have o7:=((((((Zd.upd_new ((b3.trans (Zd.of_below a7)).trans (Zd.of_below n9.below)) a8 g9).trans (Zd.of_below a6.below)).trans (Zd.of_grown a3 a1 (by decide))).trans (Zd.of_upd a4 a0 (by decide))).trans (Zd.of_below a2)).trans (only_w2 c3)).trans (Zd.of_below d4)
    refine xe 9 (.iface f9 (x9)) ?_
    have hR:=Bd (show 16-i≠0 by omega) d8 c5 a5 hm (by omega) (show trV l no key=(Yx l no).getD cc [] from by unfold trV Yx;first|(rw[d2,Nat.add_sub_cancel])|rw[d2])
    rw[hR]
    unfold Zbg
    rw[trE_v a9]
    exact .inl ⟨a9,_,_,_,_,rfl,p7,o7,i6,n5,m5,j4,d9⟩
   have a9:=h2
   have o2:=b4.only c3 (by decide)
   refine xb 5 1 o2 ?_
   refine xk 2 (show((Xp (inB l no)):Bool)=true from a5) ?_
   have m3:=Zi (Zb (a4.own2 e8 a0 (by decide)) a2) c3 (by decide)
   have k2:=(e7.below a2).only c3 (by decide)
   have l3:=h5.trans l8
   have q0:=(((((Zd.upd_new ((b3.trans (Zd.of_below a7)).trans (Zd.of_below n9.below)) a8 g9).trans (Zd.of_below a6.below)).trans (Zd.of_grown a3 a1 (by decide))).trans (Zd.of_upd a4 a0 (by decide))).trans (Zd.of_below a2)).trans (only_w2 c3)
   refine xe 10 .nilIface ?_
   have hR:=Bd (show 16-i≠0 by omega) d8 c5 a5 hm (by omega) (show trV l no key=(Yx l no).getD cc [] from by unfold trV Yx;first|(rw[d2,Nat.add_sub_cancel])|rw[d2])
   rw[hR]
   unfold Zbg
   rw[trE_v0 (by first|exact a9|exact Decidable.not_not.1 a9|omega)]
   exact .inr ⟨rfl,_,_,rfl,l3,q0,l2,k2,m3,r4⟩
  have a5:Xp (inB l no)=false:=i4
  refine xb 18 1 b4 ?_
  refine xk 2 (show((Xp (inB l no)):Bool)=false from a5) ?_
  refine xb 2 3 b4 ?_
  have g3:=Zb (a4.own2 (Zr (Zb (a8.own2 (Zb (Zh r0 c1.size) n9.below) n9.blk (by decide)) a6.below) a3 a1 (by decide)) a0 (by decide)) a2
  refine xx 1 _ (Zt (inB l no)) cc 1 (Strs.elem (Zf g3) j2 (k:=cc) (by omega)).1 ?_
  refine xl 0 ((Strs.elem (Zf g3) j2 (k:=cc) (by omega)).2) ?_
  refine xr 0 (args:=#[.string ⟨((Yx l no).getD cc []).toArray⟩]) (Yv ((Yx l no).getD cc []) _ (Vi _ _ _)) fun s5 b1=>?_
  refine xin 14 (Xj ((Yx l no).getD cc [])) (0:Int) (fun i7=>?_) (fun i7=>?_)
  ·have a9:=i7
   have e5:=Zb (Zb (a4.own2 e8 a0 (by decide)) a2) b1
   have g5:=(e7.below a2).below b1
   refine xc 5 (args:=#[P0 bx,.iface 89 (V0 (Xj ((Yx l no).getD cc [])))]) (Yu bx _ _ _ (b8++[no]) [] _ _ _ _ g5 (Zf e5) (fun b o4 x q=>by have q2:=e5;rw[q] at q2;exact(q2.lt b rfl).2) (Ck _ _) (by first|omega|(simp;omega))) ?_
   rintro _ s9 ⟨f9,x9,rfl,d7,d9⟩
   rw[List.append_nil] at d9
   have j3:=Zb e5 d7
   have k1:=g5.below d7
   have f6:=(((a4.blk (((a8.blkT ((b0.below a7).below n9.below) n9.blk (by decide)).below a6.below).grown a3 a1 (by decide)) (Ne.symm (by rintro rfl;exact absurd (Blk.ty kx kr) (by decide)))).below a2).below b1).below d7
   have n8:=((((((((d6.below a7).below n9.below).only (Zd.of_upd (T:=[183]) a8 n9.blk (by decide)) (by decide)).below a6.below).only (Zd.of_grown (T:=[3]) a3 a1 (by decide)) (by decide)).only (Zd.of_upd (T:=[66]) a4 a0 (by decide)) (by decide)).below a2).below b1).below d7
   have m1:=blB (blB (blB (a4.below (b5.trans b7) hBx) hBw a2) hBw b1) hBw d7
   have p1:=((((((Zd.upd_new ((b3.trans (Zd.of_below a7)).trans (Zd.of_below n9.below)) a8 g9).trans (Zd.of_below a6.below)).trans (Zd.of_grown a3 a1 (by decide))).trans (Zd.of_upd a4 a0 (by decide))).trans (Zd.of_below a2)).trans (Zd.of_below b1)).trans (Zd.of_below d7)
   refine xe 9 (.iface f9 (x9)) ?_
   have hR:=Bq (show 16-i≠0 by omega) d8 c5 a5 (by omega) (show trV l no key=(Yx l no).getD cc [] from by unfold trV Yx;first|(rw[d2,Nat.add_sub_cancel])|rw[d2]) a9
   rw[hR]
   exact .inl ⟨a9,_,_,_,_,rfl,m1,p1,n8,k1,j3,f6,d9⟩
  have a9:=i7
  have m6:=b4.below b1
  refine xb 5 1 m6 ?_
  refine xk 2 (show((Xp (inB l no)):Bool)=false from a5) ?_
  refine xwm 5 ((i:Int)+1) (↑(i+1):Int) ?_
  have n1:=Zb (Zb (a4.own2 e8 a0 (by decide)) a2) b1
  have m9:=blB (blB (a4.below (b5.trans b7) hBx) hBw a2) hBw b1
  have q4:=(((((Zd.upd_new ((b3.trans (Zd.of_below a7)).trans (Zd.of_below n9.below)) a8 g9).trans (Zd.of_below a6.below)).trans (Zd.of_grown a3 a1 (by decide))).trans (Zd.of_upd a4 a0 (by decide))).trans (Zd.of_below a2)).trans (Zd.of_below b1)
  have n7:=(e7.below a2).below b1
  have f0:=((a4.blk (((a8.blkT ((b0.below a7).below n9.below) n9.blk (by decide)).below a6.below).grown a3 a1 (by decide)) (Ne.symm (by rintro rfl;exact absurd (Blk.ty kx kr) (by decide)))).below a2).below b1
  have q6:=(((((((hI.below a7).below n9.below).only (Zd.of_upd (T:=[183]) a8 n9.blk (by decide)) (by decide)).below a6.below).only (Zd.of_grown (T:=[3]) a3 a1 (by decide)) (by decide)).only (Zd.of_upd (T:=[66]) a4 a0 (by decide)) (by decide)).below a2).below b1
  have n4:=(((((((d6.below a7).below n9.below).only (Zd.of_upd (T:=[183]) a8 n9.blk (by decide)) (by decide)).below a6.below).only (Zd.of_grown (T:=[3]) a3 a1 (by decide)) (by decide)).only (Zd.of_upd (T:=[66]) a4 a0 (by decide)) (by decide)).below a2).below b1
  exact ze 2 (r2 _ _ _ ⟨i+1,_,(b8++[no]),_,_,rfl,rfl,m9,q4,n7,f0,q6,n1,n4,by omega,by simp;omega,Er (by omega) d8 c5 a5 (by omega) (show trV l no key=(Yx l no).getD cc [] from by unfold trV Yx;first|(rw[d2,Nat.add_sub_cancel])|rw[d2]) (by first|exact a9|exact Decidable.not_not.1 a9)⟩ (by omega))
 ·have k3:=Zb (a4.own2 e8 a0 (by decide)) a2
  have l6:=e7.below a2
  have f4:=(a4.blk (((a8.blkT ((b0.below a7).below n9.below) n9.blk (by decide)).below a6.below).grown a3 a1 (by decide)) (Ne.symm (by rintro rfl;exact absurd (Blk.ty kx kr) (by decide)))).below a2
  have k8:=((((((d6.below a7).below n9.below).only (Zd.of_upd (T:=[183]) a8 n9.blk (by decide)) (by decide)).below a6.below).only (Zd.of_grown (T:=[3]) a3 a1 (by decide)) (by decide)).only (Zd.of_upd (T:=[66]) a4 a0 (by decide)) (by decide)).below a2
  have m0:=blB (a4.below (b5.trans b7) hBx) hBw a2
  have p8:=((((Zd.upd_new ((b3.trans (Zd.of_below a7)).trans (Zd.of_below n9.below)) a8 g9).trans (Zd.of_below a6.below)).trans (Zd.of_grown a3 a1 (by decide))).trans (Zd.of_upd a4 a0 (by decide))).trans (Zd.of_below a2)
  refine xe 48 .nilIface ?_
  first|(exfalso;omega)|(have hR:=Hf (show 16-i≠0 by omega) d8 c5 (by omega);rw[hR];exact .inr ⟨rfl,_,_,rfl,m0,p8,k8,l6,k3,f4⟩)
 refine xwm 17 ((↑(cc+1):Int)-1) (↑((cc+1)-1):Int) ?_
 refine xg 9 [63,64] (decide ((↑((cc+1)-1):Int)<(0:Int))) (fun c4=>?_) (fun c4=>?_)
 ·have c4:=of_decide_eq_true c4
  have h4:=c4
  have k4:=Zb (a4.own2 e8 a0 (by decide)) a2
  have m4:=e7.below a2
  have f2:=(a4.blk (((a8.blkT ((b0.below a7).below n9.below) n9.blk (by decide)).below a6.below).grown a3 a1 (by decide)) (Ne.symm (by rintro rfl;exact absurd (Blk.ty kx kr) (by decide)))).below a2
  have j7:=((((((d6.below a7).below n9.below).only (Zd.of_upd (T:=[183]) a8 n9.blk (by decide)) (by decide)).below a6.below).only (Zd.of_grown (T:=[3]) a3 a1 (by decide)) (by decide)).only (Zd.of_upd (T:=[66]) a4 a0 (by decide)) (by decide)).below a2
  have j9:=blB (a4.below (b5.trans b7) hBx) hBw a2
  have q9:=((((Zd.upd_new ((b3.trans (Zd.of_below a7)).trans (Zd.of_below n9.below)) a8 g9).trans (Zd.of_below a6.below)).trans (Zd.of_grown a3 a1 (by decide))).trans (Zd.of_upd a4 a0 (by decide))).trans (Zd.of_below a2)
  refine xe 21 .nilIface ?_
  first|(exfalso;omega)|(have hR:=Hf (show 16-i≠0 by omega) d8 c5 (by omega);rw[hR];exact .inr ⟨rfl,_,_,rfl,j9,q9,j7,m4,k4,f2⟩)
 have c4:=of_decide_eq_false c4
 have h4:=c4
 have d3:=e4.below a2
 refine xb 1 1 d3 ?_
 refine xg 1 [66,67] (Xp (inB l no)) (fun h7=>?_) (fun h7=>?_)
 ·have a5:Xp (inB l no)=true:=h7
  have h9:=Zb (a4.own2 e8 a0 (by decide)) a2
  have h1:=e7.below a2
  have e9:=(a4.blk (((a8.blkT ((b0.below a7).below n9.below) n9.blk (by decide)).below a6.below).grown a3 a1 (by decide)) (Ne.symm (by rintro rfl;exact absurd (Blk.ty kx kr) (by decide)))).below a2
  have l5:=((((((d6.below a7).below n9.below).only (Zd.of_upd (T:=[183]) a8 n9.blk (by decide)) (by decide)).below a6.below).only (Zd.of_grown (T:=[3]) a3 a1 (by decide)) (by decide)).only (Zd.of_upd (T:=[66]) a4 a0 (by decide)) (by decide)).below a2
  have l1:=blB (a4.below (b5.trans b7) hBx) hBw a2
  have j6:=((((Zd.upd_new ((b3.trans (Zd.of_below a7)).trans (Zd.of_below n9.below)) a8 g9).trans (Zd.of_below a6.below)).trans (Zd.of_grown a3 a1 (by decide))).trans (Zd.of_upd a4 a0 (by decide))).trans (Zd.of_below a2)
  refine xe 18 .nilIface ?_
  have hR:=So (show 16-i≠0 by omega) d8 c5 a5 hm
  rw[hR]
  exact .inr ⟨rfl,_,_,rfl,l1,j6,l5,h1,h9,e9⟩
 have a5:Xp (inB l no)=false:=h7
 refine xb 18 1 d3 ?_
 refine xk 2 (show((Xp (inB l no)):Bool)=false from a5) ?_
 refine xb 2 3 d3 ?_
 have g7:=Zb (a4.own2 (Zr (Zb (a8.own2 (Zb (Zh r0 c1.size) n9.below) n9.blk (by decide)) a6.below) a3 a1 (by decide)) a0 (by decide)) a2
 refine xx 1 _ (Zt (inB l no)) ((cc+1)-1) 1 (Strs.elem (Zf g7) j2 (k:=((cc+1)-1)) (by omega)).1 ?_
 refine xl 0 ((Strs.elem (Zf g7) j2 (k:=((cc+1)-1)) (by omega)).2) ?_
 refine xr 0 (args:=#[.string ⟨((Yx l no).getD ((cc+1)-1) []).toArray⟩]) (Yv ((Yx l no).getD ((cc+1)-1) []) _ (Vi _ _ _)) fun t4 b2=>?_
 refine xin 14 (Xj ((Yx l no).getD ((cc+1)-1) [])) (0:Int) (fun h0=>?_) (fun h0=>?_)
 ·have a9:=h0
  have c6:=Zb (Zb (a4.own2 e8 a0 (by decide)) a2) b2
  have e3:=(e7.below a2).below b2
  refine xc 5 (args:=#[P0 bx,.iface 89 (V0 (Xj ((Yx l no).getD ((cc+1)-1) [])))]) (Yu bx _ _ _ (b8++[no]) [] _ _ _ _ e3 (Zf c6) (fun b o4 x q=>by have q2:=c6;rw[q] at q2;exact(q2.lt b rfl).2) (Ck _ _) (by first|omega|(simp;omega))) ?_
  rintro _ s4 ⟨f9,x9,rfl,d5,d9⟩
  rw[List.append_nil] at d9
  have h3:=Zb c6 d5
  have i0:=e3.below d5
  have e2:=(((a4.blk (((a8.blkT ((b0.below a7).below n9.below) n9.blk (by decide)).below a6.below).grown a3 a1 (by decide)) (Ne.symm (by rintro rfl;exact absurd (Blk.ty kx kr) (by decide)))).below a2).below b2).below d5
  have i5:=((((((((d6.below a7).below n9.below).only (Zd.of_upd (T:=[183]) a8 n9.blk (by decide)) (by decide)).below a6.below).only (Zd.of_grown (T:=[3]) a3 a1 (by decide)) (by decide)).only (Zd.of_upd (T:=[66]) a4 a0 (by decide)) (by decide)).below a2).below b2).below d5
  have m8:=blB (blB (blB (a4.below (b5.trans b7) hBx) hBw a2) hBw b2) hBw d5
  have k5:=((((((Zd.upd_new ((b3.trans (Zd.of_below a7)).trans (Zd.of_below n9.below)) a8 g9).trans (Zd.of_below a6.below)).trans (Zd.of_grown a3 a1 (by decide))).trans (Zd.of_upd a4 a0 (by decide))).trans (Zd.of_below a2)).trans (Zd.of_below b2)).trans (Zd.of_below d5)
  refine xe 9 (.iface f9 (x9)) ?_
  have hR:=Bq (show 16-i≠0 by omega) d8 c5 a5 (by omega) (show trV l no key=(Yx l no).getD ((cc+1)-1) [] from by unfold trV Yx;first|(rw[d2,Nat.add_sub_cancel])|rw[d2]) a9
  rw[hR]
  exact .inl ⟨a9,_,_,_,_,rfl,m8,k5,i5,i0,h3,e2,d9⟩
 have a9:=h0
 have n0:=d3.below b2
 refine xb 5 1 n0 ?_
 refine xk 2 (show((Xp (inB l no)):Bool)=false from a5) ?_
 refine xwm 5 ((i:Int)+1) (↑(i+1):Int) ?_
 have h8:=Zb (Zb (a4.own2 e8 a0 (by decide)) a2) b2
 have k6:=blB (blB (a4.below (b5.trans b7) hBx) hBw a2) hBw b2
 have j5:=(((((Zd.upd_new ((b3.trans (Zd.of_below a7)).trans (Zd.of_below n9.below)) a8 g9).trans (Zd.of_below a6.below)).trans (Zd.of_grown a3 a1 (by decide))).trans (Zd.of_upd a4 a0 (by decide))).trans (Zd.of_below a2)).trans (Zd.of_below b2)
 have h6:=(e7.below a2).below b2
 have e0:=((a4.blk (((a8.blkT ((b0.below a7).below n9.below) n9.blk (by decide)).below a6.below).grown a3 a1 (by decide)) (Ne.symm (by rintro rfl;exact absurd (Blk.ty kx kr) (by decide)))).below a2).below b2
 have q1:=(((((((hI.below a7).below n9.below).only (Zd.of_upd (T:=[183]) a8 n9.blk (by decide)) (by decide)).below a6.below).only (Zd.of_grown (T:=[3]) a3 a1 (by decide)) (by decide)).only (Zd.of_upd (T:=[66]) a4 a0 (by decide)) (by decide)).below a2).below b2
 have i1:=(((((((d6.below a7).below n9.below).only (Zd.of_upd (T:=[183]) a8 n9.blk (by decide)) (by decide)).below a6.below).only (Zd.of_grown (T:=[3]) a3 a1 (by decide)) (by decide)).only (Zd.of_upd (T:=[66]) a4 a0 (by decide)) (by decide)).below a2).below b2
 exact ze 2 (r2 _ _ _ ⟨i+1,_,(b8++[no]),_,_,rfl,rfl,k6,j5,h6,e0,q1,h8,i1,by omega,by simp;omega,Er (by omega) d8 c5 a5 (by omega) (show trV l no key=(Yx l no).getD ((cc+1)-1) [] from by unfold trV Yx;first|(rw[d2,Nat.add_sub_cancel])|rw[d2]) (by first|exact a9|exact Decidable.not_not.1 a9)⟩ (by omega))
theorem numsB_take{N:List Int}{i:Nat}(h:i<N.length):Hs (N.take (i+1))=Hs (N.take i)++leB (N.getD i 0) 4:=by
 unfold Hs
 rw[List.take_succ_eq_append_getElem h,List.flatMap_append]
 simp[List.getD,h]
theorem byte_inj{x y:UInt8}(h:(x.toNat:Int)=(y.toNat:Int)):x=y:=UInt8.toNat_inj.1 (by omega)
theorem bytes_ne{a b:Bl}{i:Nat}(hi:i<a.length)(hl:a.length=b.length)(h:((a.getD i 0).toNat:Int)≠((b.getD i 0).toNat:Int)):(a==b)=false:=by
 apply beq_false_of_ne
 rintro rfl
 exact h rfl
theorem bytes_eq{a b:Bl}(hl:a.length=b.length)(h:∀ j,j<a.length→a.getD j 0=b.getD j 0):(a==b)=true:=by
 rw[beq_iff_eq]
 apply List.ext_getElem hl
 intro j h1 h2
 have:=h j h1
 simpa [List.getD,h1,h2] using this
theorem Zae(p q:O0)(c d:Nat)(a b:Bl)(w:World)(hl:a.length≤100000000)(h:Bys w (.slice p a.length c) a)(h2:Bys w (.slice q b.length d) b) :
 C0 79 #[.slice p a.length c,.slice q b.length d] w (Ret (.bool (a==b)) w):=by
 refine zin 26 Tryz.func79 ?_
 refine xin 15 (a.length:Int) (b.length:Int) (fun a3=>?_) (fun a3=>?_)
 ·refine xe 7 (.bool false) ?_
  rw[show(a==b)=false from beq_false_of_ne (fun q=>by subst q;simp at *)];exact⟨rfl,(B4 w)⟩
 have hB:=Below.refl w.heap.size w
 refine zl 11 26 (fun zm a4 V=>∃ (i:Nat),a4=[(0,.slice p a.length c),(1,.slice q b.length d),(12,V0 (a.length:Int)),(13,V0 (i:Int))]∧zm=a.length-((i:Int)).toNat∧B3 w V∧i≤a.length∧(∀ j,j<i→a.getD j 0=b.getD j 0)) ⟨0,rfl,rfl,hB,Nat.zero_le _,?_⟩ ?_
 ·exact fun j hj=>absurd hj (by omega)
 rintro _ _ W2 ⟨i,rfl,rfl,a1,hi,hz⟩ J2 a2 r2
 refine xid 6 ((i:Int)<(a.length:Int)) (fun a5=>?_) (fun a5=>?_)
 ·refine xd 11 .z ?_
  refine xx (.e [0,1] 2) _ a.length i 1 (Bys.elem h (k:=i) (by omega)).1 ?_
  have a0:=bln a1 (Za W2)
  refine xl (.e [] 3) ((Bys.elem (h.below a0) (k:=i) (by omega)).2) ?_
  refine xx (.e [4,5] 6) _ b.length i 1 (Bys.elem h2 (k:=i) (by omega)).1 ?_
  refine xl (.e [] 7) ((Bys.elem (h2.below a0) (k:=i) (by omega)).2) ?_
  refine xin (.r [8] 2) (↑(a.getD i 0).toNat:Int) (↑(b.getD i 0).toNat:Int) (fun a6=>?_) (fun a6=>?_)
  ·refine xe 11 (.bool false) ?_
   rw[bytes_ne (i:=i) (by omega) (by omega) (by assumption)];exact⟨rfl,a0⟩
  refine xwm 4 ((i:Int)+1) (↑(i+1):Int) ?_
  exact ze 2 (a2 _ _ _ ⟨i+1,rfl,rfl,a0,by omega,fun j hj=>(Nat.lt_or_ge j i).elim (hz j) (fun q=>by obtain rfl:j=i:=(by omega);exact byte_inj (by assumption))⟩ (by omega))
 refine xe 11 (.bool true) ?_
 rw[bytes_eq (by omega) (fun j hj=>hz j (by omega))];exact⟨rfl,a1⟩
theorem Tn(p q:O0)(c d m n:Nat)(a b:Bl)(w:World)(hm:a.length=m)(hn:b.length=n)(hl:m≤100000000)(h:Bys w (.slice p m c) a)(h2:Bys w (.slice q n d) b):C0 79 #[.slice p m c,.slice q n d] w (Ret (.bool (a==b)) w):=by
 subst hm hn;exact Zae p q c d a b w hl h h2
theorem Pack_4s(p:O0)(c:Nat)(N:List Int)(w:World)(hn2:N.length≤1000)(hN:∀ i,i<N.length→0≤N.getD i 0∧N.getD i 0<4294967296)(hF:Sts Ac w (.slice p N.length c) N) :
 C0 131 #[.slice p N.length c] w (Vo (fun w' r=>∃ q d,r=.tuple #[.slice q (N.length*4) d,V0 0]∧w'.ownsRow w.heap.size 5 1 (.slice q (N.length*4) d) (N.length*4) ((Hs N).map bv)) w):=by
 refine zin 32 Tryz.func131 ?_
 have hB:=Below.refl w.heap.size w
 refine zl 20 32 (fun zm b2 V=>∃ (i m:Nat) (q:O0) (d:Nat),b2=[(4,.slice q m d),(7,.slice p N.length c),(8,V0 (N.length:Int)),(9,V0 (i:Int))]∧zm=N.length-((i:Int)).toNat∧B3 w V∧V.ownsRow w.heap.size 5 1 (.slice q m d) m ((Hs (N.take i)).map bv)∧i≤N.length∧m=i*4) ⟨0,0,_,_,rfl,rfl,hB,World.ownsRow_nil _ _ _ _,Nat.zero_le _,rfl⟩ ?_
 rintro _ _ W1 ⟨i,m,q,d,rfl,rfl,a0,ho,hi,hm⟩ J1 b0 r1
 refine xid 6 ((i:Int)<(N.length:Int)) (fun b4=>?_) (fun b4=>?_)
 ·refine xx 6 _ N.length i 2 (Sts.cell hF Zgz 0 (k:=i) (i:=0) (by omega) rfl).1 ?_
  refine xlv 0 (Sts.rp (k:=i) (hF.below a0) Zgz 0 (by omega) (by decide)) ?_
  refine xa 0 [V0 0,V0 0] 235 fun b3 W3 n3=>?_
  have g3:=n3.ge a0
  refine xsv 0 n3.blk [V0 4,V0 (N.getD i 0)] fun W4 u4 k4=>?_
  refine xb 6 0 k4 ?_
  refine xr 0 (args:=#[V0 4]) (Zal _) fun W5 a6=>?_
  have a2:=k4.below a6
  refine xb 10 1 a2 ?_
  refine xb 1 0 a2 ?_
  refine xr 0 (args:=#[V0 (N.getD i 0),V0 4]) (Zgl (N.getD i 0) (hN i (by omega)).1 (hN i (by omega)).2 _) fun W6 a5=>?_
  have a3:=a2.below a5
  refine xb 9 1 a3 ?_
  refine xb 1 0 a3 ?_
  refine xc 0 (args:=#[V0 (N.getD i 0),V0 4]) (Ot (N.getD i 0) (hN i (by omega)).1 _) ?_
  rintro _ W7 ⟨_,rfl,a9,h2⟩
  have b5:=(bln (bln (u4.below (bln a0 n3.below) g3) a6) a5).size
  have a1:=Zh h2 b5
  unfold Np at a1
  rw[Zj] at a1
  obtain⟨p2,c2,rfl⟩:=(Zf a1).slice
  have a7:=Zb (Zb (Zb (u4.own2 (Zb ho n3.below) n3.blk (by decide)) a6) a5) a9
  have a4:=bln (bln (bln (u4.below (bln a0 n3.below) g3) a6) a5) a9
  refine xbi 0 fun _ _ _ _ zJ zQ zo zx zy zK=>Xd (m:=4) (news:=(leB (N.getD i 0) 4).map bv) (.int .u8 0) 1 1 (m+4) (((Hs (N.take (i+1))).map bv)) zo Tryz.underlying22 (by kernel_rfl) rfl (by decide) zx a7 zy (Zf a1) (by simp[Zj]) (Qn _) (by unfold maxLen;omega) (by omega) a4.size (by rfl) (by rw[numsB_take (by omega),List.map_append]) fun b8 b7 W8 o8 b6 b1=>?_
  refine zK _ _ ?_
  refine xwm 5 ((i:Int)+1) (↑(i+1):Int) ?_
  have a8:=a4.trans b1
  exact ze 2 (b0 _ _ _ ⟨i+1,_,_,_,rfl,rfl,a8,o8,by omega,by omega⟩ (by omega))
 refine xe 13 (.tuple #[.slice q m d,V0 0]) ?_
 obtain rfl:i=N.length:=by omega
 rw[List.take_length] at ho
 subst hm
 exact⟨_,rfl,a0,_,_,rfl,ho⟩
theorem sup_put3(s:Sup):((Wc++List.replicate 236 (0:UInt8)).map bv).take 8++(Hs (1::Im s)).map bv++((Wc++List.replicate 236 (0:UInt8)).map bv).drop (8+48)=(Gw s).map bv:=by
 unfold Gw
 rw[List.map_append (l₁:=Wc++Hs (1::Im s)),List.map_append (l₁:=Wc) (l₂:=Hs (1::Im s))]
 congr 1
theorem supN_bd{s:Sup}(h:Qh s=true):∀ i,i<(1::Im s).length→0≤(1::Im s).getD i 0∧(1::Im s).getD i 0<4294967296:=by
 unfold Qh at h
 simp only[Bool.and_eq_true,decide_eq_true_iff,Bool.true_and] at h
 intro i hi
 have a0:i<12:=hi
 obtain rfl|rfl|rfl|rfl|rfl|rfl|rfl|rfl|rfl|rfl|rfl|rfl:i=0∨i=1∨i=2∨i=3∨i=4∨i=5∨i=6∨i=7∨i=8∨i=9∨i=10∨i=11:=by omega
 all_goals simp[Im,List.getD]
 all_goals omega
theorem Zep(s:Sup)(w:World)(hb0:0≤s.blocks)(hb1:s.blocks<9223372036854775808)(hr:Qh s=false) :
 C0 71 #[.agg #[V0 s.tx,V0 s.time,V0 s.unit,V0 s.data,V0 s.blocks,V0 s.top,V0 s.details,V0 s.dslots,V0 s.dover,V0 s.mindex,V0 s.mover]] w (Ret (.tuple #[S0,V0 1]) w):=by
 refine zin 28 Tryz.func71 ?_
 refine xa 2 [V0 s.tx,V0 s.time,V0 s.unit,V0 s.data,V0 s.blocks,V0 s.top,V0 s.details,V0 s.dslots,V0 s.dover,V0 s.mindex,V0 s.mover] 30 fun b1 W1 n1=>?_
 refine xlv 7 n1.blk.rp ?_
 refine xr 0 (args:=#[.agg #[V0 s.tx,V0 s.time,V0 s.unit,V0 s.data,V0 s.blocks,V0 s.top,V0 s.details,V0 s.dslots,V0 s.dover,V0 s.mindex,V0 s.mover]]) (Zc4 s _ hb0 hb1) fun W2 a0=>?_
 refine xk 3 (show(!(Qh s):Bool)=true from by rw[hr];rfl) ?_
 have hB:=bln n1.below a0
 exact xe 8 (.tuple #[S0,V0 1]) ⟨rfl,hB⟩
theorem sup_Put_ok(s:Sup)(w:World)(hb0:0≤s.blocks)(hb1:s.blocks<9223372036854775808)(hr:Qh s=true) :
 C0 71 #[.agg #[V0 s.tx,V0 s.time,V0 s.unit,V0 s.data,V0 s.blocks,V0 s.top,V0 s.details,V0 s.dslots,V0 s.dover,V0 s.mindex,V0 s.mover]] w (Vo (fun w' r=>∃ p c,r=.tuple #[.slice p 244 c,V0 0]∧w'.ownsRow w.heap.size 5 1 (.slice p 244 c) 244 ((Gw s).map bv)) w):=by
 have hN:=supN_bd hr
 refine zin 28 Tryz.func71 ?_
 refine xa 2 [V0 s.tx,V0 s.time,V0 s.unit,V0 s.data,V0 s.blocks,V0 s.top,V0 s.details,V0 s.dslots,V0 s.dover,V0 s.mindex,V0 s.mover] 30 fun b1 W1 n1=>?_
 refine xlv 7 n1.blk.rp ?_
 refine xr 0 (args:=#[.agg #[V0 s.tx,V0 s.time,V0 s.unit,V0 s.data,V0 s.blocks,V0 s.top,V0 s.details,V0 s.dslots,V0 s.dover,V0 s.mindex,V0 s.mover]]) (Zc4 s _ hb0 hb1) fun W2 a3=>?_
 refine xk 3 (show(!(Qh s):Bool)=false from by rw[hr];rfl) ?_
 refine xbs 5 1 [V0 4,V0 1] 235 fun b3 W3 n3=>?_
 refine xa 0 [S0] 236 fun b4 W4 n4=>?_
 refine xs 0 n4.blk [.slice (S1 b3) 1 1] fun W5 u5 k5=>?_
 have g4:=n4.ge (bln (bln n1.below a3) n3.below)
 have k3:=u5.blkT (n3.blk.below n4.below) n4.blk (by decide)
 have g3:=n3.ge (bln n1.below a3)
 have b6:World.ownsRow W5 w.heap.size 235 2 (.slice (S1 b3) 1 1) 1 (([1]:List Int).flatMap Ac):=Xl (size:=2) (n:=1) k3 g3 rfl (by decide)
 have hB:=u5.below (bln (bln (bln n1.below a3) n3.below) n4.below) g4
 have a5:=u5.blkT (((n1.blk.below a3).below n3.below).below n4.below) n4.blk (by decide)
 refine xc 5 (args:=#[P0 b1,.func (.func 130) #[] #[P0 b4]]) (Zcl w.heap.size w.heap.size b1 b4 s _ 1 _ (Nat.le_refl _) hB.size hB.size g4 hb0 hb1 a5 k5 b6) ?_
 rintro _ W6 ⟨u6,c1,b8,rfl,b7,d1,c4,b2⟩
 refine xb 4 0 c4 ?_
 refine xc 0 (args:=#[.slice c1 12 b8]) (Pack_4s c1 b8 (1::Im s) _ (show 12≤1000 by decide) hN (Zf b2)) ?_
 rintro _ W7 ⟨_,rfl,c8,q2,d2,rfl,h2⟩
 have c3:=(hB.trans b7).size
 have a6:=Zh h2 c3
 replace h2:World.ownsRow _ _ _ _ (.slice q2 48 d2) 48 ((Hs (1::Im s)).map bv):=a6
 have b0:=bln (hB.trans b7) c8
 have c0:=b0
 refine xmk 9 fun _ _ _ _ zJ zQ zo zx zy zK=>Kw 244 (.int .u8 0) 1 1 ((List.replicate 244 (0:UInt8)).map bv) zo zx zy Tryz.underlying22 (by kernel_rfl) rfl (by omega) (by omega) (Zcf 244) fun b9 W9 n9=>?_
 refine zK _ _ ?_
 have o9:=Xl (size:=1) (n:=244) n9.blk (n9.ge (B4 W7)) (by rw[List.length_map,List.length_replicate]) (by unfold maxLen;omega)
 refine xbi 7 (t2:=9) fun _ _ _ _ zJ zQ zo zx zy zK=>Zgv (dLen:=244) (dCap:=244) (off:=0) ([83,67,65,78,84,76,73,78]) (((Wc++List.replicate 236 (0:UInt8)).map bv)) zo Tryz.underlying22 (by kernel_rfl) zx zy o9 (by decide) (by decide) n9.below.size (by rfl) fun d0 c7 c2 a9=>?_
 refine zK _ _ ?_
 have a0:=Zf h2
 have a1:=n9.below.trans a9
 refine xbi 2 (t2:=22) fun _ _ _ _ zJ zQ zo zx zy zK=>Pl (dLen:=236) (dCap:=236) (off:=8) 48 ((Hs (1::Im s)).map bv) (((Gw s).map bv)) zo Tryz.underlying22 (by kernel_rfl) zx zy (a0.below a1) c7 (by rw[List.length_map,Rn];rfl) (by decide) (by decide) (Qn _) a1.size (sup_put3 s) fun c5 c6 c9 a7=>?_
 refine zK _ _ ?_
 have b5:=a1.trans a7
 have a4:B3 W7 c5:=b5
 have a8:w.heap.size≤W7.heap.size:=c0.size
 have hB:=bln c0 a4
 have a2:=Zh c6 a8
 exact xe 10 (.tuple #[.slice (S1 b9) 244 244,V0 0]) ⟨_,rfl,hB,_,_,rfl,a2⟩
theorem readS_bd(l:Bl):0≤(Zg l).blocks∧(Zg l).blocks<9223372036854775808:=by
 have:=Vk l 28 4 (by decide)
 show 0≤(Zm l 28 4:Int)∧(Zm l 28 4:Int)<9223372036854775808
 omega
theorem Zhm(s:Sup)(w:World)(hb:0≤s.blocks∧s.blocks<9223372036854775808):C0 71 #[.agg #[V0 s.tx,V0 s.time,V0 s.unit,V0 s.data,V0 s.blocks,V0 s.top,V0 s.details,V0 s.dslots,V0 s.dover,V0 s.mindex,V0 s.mover]] w (fun e w' =>
 (Qh s=false∧e=.returned (.tuple #[S0,V0 1])∧B3 w w') ∨
 (Qh s=true∧∃ p c,e=.returned (.tuple #[.slice p 244 c,V0 0])∧B3 w w'∧w'.ownsRow w.heap.size 5 1 (.slice p 244 c) 244 ((Gw s).map bv))):=by
 cases hr:Qh s with
 | false =>
  refine(Zep s w hb.1 hb.2 hr).mono ?_
  rintro e W ⟨rfl,h⟩
  exact .inl ⟨rfl,rfl,h⟩
 | true =>
  refine(sup_Put_ok s w hb.1 hb.2 hr).mono ?_
  rintro e W ⟨_,rfl,h,p,c,rfl,ho⟩
  exact .inr ⟨rfl,p,c,rfl,h,ho⟩
def SupP(l:Bl)(w:World)(e:Ending)(w':World):Prop :=
 (supOk l=false∧e=.returned (.tuple #[.agg #[V0 0,V0 0,V0 0,V0 0,V0 0,V0 0,V0 0,V0 0,V0 0,V0 0,V0 0],V0 7])∧B3 w w')∨(supOk l=true∧e=.returned (.tuple #[.agg #[V0 ((Zg l).tx),V0 ((Zg l).time),V0 ((Zg l).unit),V0 ((Zg l).data),V0 ((Zg l).blocks),V0 ((Zg l).top),V0 ((Zg l).details),V0 ((Zg l).dslots),V0 ((Zg l).dover),V0 ((Zg l).mindex),V0 ((Zg l).mover)],V0 0])∧B3 w w')
theorem Fa{l:Bl}(hl:l.length=244):supOk l=((Gw (Zg l)==l)&&Qh (Zg l)):=by rw[supB_eq hl];rfl
theorem sup_Read(a:O0)(c:Nat)(l:Bl)(w:World)(hl:l.length=244)(h:Bys w (.slice a 244 c) l) :
 C0 41 #[.slice a 244 c] w (SupP l w):=by
 refine zin 29 Tryz.func41 ?_
 refine xa 2 [.slice a 244 c] 22 fun b1 W1 n1=>?_
 refine xa 0 [V0 0,V0 0,V0 0,V0 0,V0 0,V0 0,V0 0,V0 0,V0 0,V0 0,V0 0] 30 fun b2 W2 n2=>?_
 refine xa 5 [V0 0,V0 0,V0 0,V0 0,V0 0,V0 0,V0 0,V0 0,V0 0,V0 0,V0 0] 30 fun b3 W3 n3=>?_
 have c5:=n3.ne n2.blk
 have k1:=(n1.blk.below n2.below).below n3.below
 refine xb 5 0 k1 ?_
 refine xa 9 [V0 0] 3 fun b4 W4 n4=>?_
 refine xs 0 n4.blk [V0 12] fun W5 u5 k5=>?_
 have g4:=n4.ge (bln (bln n1.below n2.below) n3.below)
 have b7:=u5.blkT ((n2.blk.below n3.below).below n4.below) n4.blk (by decide)
 have d0:=b7
 have hB:=u5.below (bln (bln (bln n1.below n2.below) n3.below) n4.below) g4
 have k3:=u5.blkT (n3.blk.below n4.below) n4.blk (by decide)
 have a4:=u5.blkT (k1.below n4.below) n4.blk (by decide)
 have g3:=n3.ge (bln n1.below n2.below)
 refine xc 5 (args:=#[P0 b3,.func (.func 77) #[] #[P0 b1,P0 b4]]) (Za1 b3 b3 b1 b4 a c l _ (by have:=n3.at_;have:=hB.size;have q:=(k3).lt;omega) (Nat.le_refl _) (by have q1:=n3.at_;have q2:=n3.size;have q3:=n4.at_;omega) k3 a4 k5 hl (fun W q=>h.below (hB.trans (q.mono g3)))) ?_
 rintro _ W6 ⟨u6,rfl,a9,d3,b0⟩
 have c3:=d0.below' a9 (by have q1:=n2.at_;have q2:=n2.size;have q3:=n3.at_;omega)
 replace b0:Blk _ _ [V0 ((Zg l).tx),V0 ((Zg l).time),V0 ((Zg l).unit),V0 ((Zg l).data),V0 ((Zg l).blocks),V0 ((Zg l).top),V0 ((Zg l).details),V0 ((Zg l).dslots),V0 ((Zg l).dover),V0 ((Zg l).mindex),V0 ((Zg l).mover)] _:=b0
 refine xlv 5 b0.rp ?_
 refine xc 0 (args:=#[.agg #[V0 ((Zg l).tx),V0 ((Zg l).time),V0 ((Zg l).unit),V0 ((Zg l).data),V0 ((Zg l).blocks),V0 ((Zg l).top),V0 ((Zg l).details),V0 ((Zg l).dslots),V0 ((Zg l).dover),V0 ((Zg l).mindex),V0 ((Zg l).mover)]]) (Zhm (Zg l) _ (readS_bd l)) ?_
 rintro e W7 c7
 rcases c7 with ⟨c1,rfl,a0⟩|⟨c1,p4,c4,rfl,a0,h4⟩
 ·have a8:=c3.below a0
  refine xsv 23 a8 [V0 0,V0 0,V0 0,V0 0,V0 0,V0 0,V0 0,V0 0,V0 0,V0 0,V0 0] fun W8 u8 k8=>?_
  have g2:=n2.ge n1.below
  have b5:=u8.below (bln (hB.trans (a9.mono g3)) a0) g2
  exact xec 5 k8 (.tuple #[.agg #[V0 0,V0 0,V0 0,V0 0,V0 0,V0 0,V0 0,V0 0,V0 0,V0 0,V0 0],V0 7]) (.inl ⟨by rw[Fa hl,c1];exact Bool.and_false _,rfl,b5⟩)
 have c6:=(hB.trans (a9.mono g3)).size
 have b9:=(a4.only d3 (by decide)).below a0
 refine xb 13 0 b9 ?_
 have c2:=Zh h4 c6
 have a2:=bln (hB.trans (a9.mono g3)) a0
 refine xr 0 (args:=#[.slice p4 244 c4,.slice a 244 c]) (Tn p4 a c4 c 244 244 (Gw (Zg l)) l _ (Ke _) hl (by decide) (Qu (Zf c2) (Ke _)) (h.below a2)) fun W9 a6=>?_
 refine xi 4 (!(Gw (Zg l)==l)) (fun a1=>?_) (fun a1=>?_)
 ·have b6:(Gw (Zg l)==l)=false:=by simpa using a1
  have a3:=(c3.below a0).below a6
  refine xsv 3 a3 [V0 0,V0 0,V0 0,V0 0,V0 0,V0 0,V0 0,V0 0,V0 0,V0 0,V0 0] fun d5 c9 d1=>?_
  have g2:=n2.ge n1.below
  have b8:=c9.below (bln a2 a6) g2
  exact xec 5 d1 (.tuple #[.agg #[V0 0,V0 0,V0 0,V0 0,V0 0,V0 0,V0 0,V0 0,V0 0,V0 0,V0 0],V0 7]) (.inl ⟨by rw[Fa hl,b6];rfl,rfl,b8⟩)
 have b6:(Gw (Zg l)==l)=true:=by simpa using a1
 have a7:=(b0.below a0).below a6
 refine xlv 4 a7.rp ?_
 have a5:=(c3.below a0).below a6
 refine xsv 0 a5 [V0 ((Zg l).tx),V0 ((Zg l).time),V0 ((Zg l).unit),V0 ((Zg l).data),V0 ((Zg l).blocks),V0 ((Zg l).top),V0 ((Zg l).details),V0 ((Zg l).dslots),V0 ((Zg l).dover),V0 ((Zg l).mindex),V0 ((Zg l).mover)] fun d4 d2 c8=>?_
 have g2:=n2.ge n1.below
 have c0:=d2.below (bln a2 a6) g2
 exact xec 4 c8 (.tuple #[.agg #[V0 ((Zg l).tx),V0 ((Zg l).time),V0 ((Zg l).unit),V0 ((Zg l).data),V0 ((Zg l).blocks),V0 ((Zg l).top),V0 ((Zg l).details),V0 ((Zg l).dslots),V0 ((Zg l).dover),V0 ((Zg l).mindex),V0 ((Zg l).mover)],V0 0]) (.inr ⟨by rw[Fa hl,b6,c1];rfl,rfl,c0⟩)
def Wf(l:Bl)(n:Nat):Int:=if supOk l then(if(n:Int)<(Zg l).blocks then 2 else 0) else 7
def Xg(l:Bl):Int:=if inE l 1 0=0 then Wf (inB l 0) (l.length/256) else inE l 1 0
def Sup1P(l:Bl)(n:Nat)(w:World)(e:Ending)(w':World):Prop :=
 (Wf l n≠0∧∃ s:Sup,e=.returned (.tuple #[.agg #[V0 s.tx,V0 s.time,V0 s.unit,V0 s.data,V0 s.blocks,V0 s.top,V0 s.details,V0 s.dslots,V0 s.dover,V0 s.mindex,V0 s.mover],V0 (Wf l n)])∧B3 w w')∨(Wf l n=0∧e=.returned (.tuple #[.agg #[V0 ((Zg l).tx),V0 ((Zg l).time),V0 ((Zg l).unit),V0 ((Zg l).data),V0 ((Zg l).blocks),V0 ((Zg l).top),V0 ((Zg l).details),V0 ((Zg l).dslots),V0 ((Zg l).dover),V0 ((Zg l).mindex),V0 ((Zg l).mover)],V0 0])∧B3 w w')
def BlkSupP(l:Bl)(w:World)(e:Ending)(w':World):Prop :=
 (Xg l≠0∧∃ b,e=.returned (.tuple #[.agg #[V0 0,V0 0,V0 0,V0 0,V0 0,V0 0,V0 0,V0 0,V0 0,V0 0,V0 0],.iface 256 (P0 b)])∧B3 w w'∧Va w' [some 0] (some (Xg l)) (.iface 256 (P0 b))) ∨
 (Xg l=0∧e=.returned (.tuple #[.agg #[V0 ((Zg (inB l 0)).tx),V0 ((Zg (inB l 0)).time),V0 ((Zg (inB l 0)).unit),V0 ((Zg (inB l 0)).data),V0 ((Zg (inB l 0)).blocks),V0 ((Zg (inB l 0)).top),V0 ((Zg (inB l 0)).details),V0 ((Zg (inB l 0)).dslots),V0 ((Zg (inB l 0)).dover),V0 ((Zg (inB l 0)).mindex),V0 ((Zg (inB l 0)).mover)],.nilIface])∧B3 w w')
def supZ:Sup:=⟨0,0,0,0,0,0,0,0,0,0,0⟩
theorem super_1(B b bm:Nat)(pi:O0)(ni ci:Nat)(li:Bl)(a:O0)(c:Nat)(l:Bl)(w:World)(hI:ImgR B b pi ni ci li w)(km:Blk w bm [P0 b] 24)(hl:l.length=244)(h:Bys w (.slice a 244 c) l) :
 C0 40 #[.slice a 244 c,P0 bm] w (Sup1P l (ni/256) w):=by
 have d0:=hI.hn
 refine zin 24 Tryz.func40 ?_
 refine xa 2 [V0 0,V0 0,V0 0,V0 0,V0 0,V0 0,V0 0,V0 0,V0 0,V0 0,V0 0] 30 fun b1 W1 n1=>?_
 refine xc 6 (args:=#[.slice a 244 c]) (sup_Read a c l _ hl (h.below n1.below)) ?_
 rintro e W2 c7
 rcases c7 with ⟨a5,rfl,a4⟩|⟨a5,rfl,a4⟩
 ·refine xa 3 [V0 0,V0 0,V0 0,V0 0,V0 0,V0 0,V0 0,V0 0,V0 0,V0 0,V0 0] 30 fun b3 W3 n3=>?_
  have k1:=n1.blk.below a4
  have a7:=n3.ne k1
  have a6:=bln n1.below a4
  have g3:=n3.ge a6
  refine xsv 0 n3.blk [V0 0,V0 0,V0 0,V0 0,V0 0,V0 0,V0 0,V0 0,V0 0,V0 0,V0 0] fun W4 u4 k4=>?_
  refine xd 5 .z ?_
  have a9:=k4.below (Za W4)
  refine xlv (.r [0,1,2,3,4,5,6,7,8] 7) a9.rp ?_
  have b0:=(u4.blk (k1.below n3.below) (Ne.symm (Ne.symm a7))).below (Za W4)
  refine xsv 1 b0 [V0 0,V0 0,V0 0,V0 0,V0 0,V0 0,V0 0,V0 0,V0 0,V0 0,V0 0] fun W5 u5 k5=>?_
  have g1:=n1.ge (B4 w)
  have c0:=u5.below (bln (u4.below (bln a6 n3.below) g3) (Za W4)) g1
  exact xec 4 k5 (.tuple #[.agg #[V0 0,V0 0,V0 0,V0 0,V0 0,V0 0,V0 0,V0 0,V0 0,V0 0,V0 0],V0 7]) (.inl ⟨by unfold Wf;rw[a5,if_neg (by decide)];decide,supZ,by unfold Wf;rw[a5,if_neg (by decide)];rfl,c0⟩)
 refine xa 3 [V0 0,V0 0,V0 0,V0 0,V0 0,V0 0,V0 0,V0 0,V0 0,V0 0,V0 0] 30 fun b6 W6 n6=>?_
 have k1:=n1.blk.below a4
 have a0:=n6.ne k1
 have a8:=bln n1.below a4
 have g6:=n6.ge a8
 refine xsv 0 n6.blk [V0 ((Zg l).tx),V0 ((Zg l).time),V0 ((Zg l).unit),V0 ((Zg l).data),V0 ((Zg l).blocks),V0 ((Zg l).top),V0 ((Zg l).details),V0 ((Zg l).dslots),V0 ((Zg l).dover),V0 ((Zg l).mindex),V0 ((Zg l).mover)] fun W7 u7 k7=>?_
 refine xd 5 .z ?_
 have a1:=k7.below (Za W7)
 refine xb (.e [0,1,2,3] 4) 4 a1 ?_
 have b8:=(u7.blkT (((km.below n1.below).below a4).below n6.below) n6.blk (by decide)).below (Za W7)
 refine xb (.e [] 5) 0 b8 ?_
 have a2:=bln (u7.below (bln a8 n6.below) g6) (Za W7)
 refine xr (.o [] 6) (args:=#[P0 b]) (Yl b _ ni ci _ (hI.below a2).blk (by omega)) fun W8 a3=>?_
 refine xid (.r [7,8] 2) ((Zg l).blocks>(↑(ni/256):Int)) (fun c5=>?_) (fun c5=>?_)
 ·have b2:=a1.below a3
  refine xlv 2 b2.rp ?_
  have c1:=((u7.blk (k1.below n6.below) (Ne.symm (Ne.symm a0))).below (Za W7)).below a3
  refine xsv 0 c1 [V0 ((Zg l).tx),V0 ((Zg l).time),V0 ((Zg l).unit),V0 ((Zg l).data),V0 ((Zg l).blocks),V0 ((Zg l).top),V0 ((Zg l).details),V0 ((Zg l).dslots),V0 ((Zg l).dover),V0 ((Zg l).mindex),V0 ((Zg l).mover)] fun c8 c3 c2=>?_
  have g1:=n1.ge (B4 w)
  have b5:=c3.below (bln a2 a3) g1
  exact xec 5 c2 (.tuple #[.agg #[V0 ((Zg l).tx),V0 ((Zg l).time),V0 ((Zg l).unit),V0 ((Zg l).data),V0 ((Zg l).blocks),V0 ((Zg l).top),V0 ((Zg l).details),V0 ((Zg l).dslots),V0 ((Zg l).dover),V0 ((Zg l).mindex),V0 ((Zg l).mover)],V0 2]) (.inl ⟨by unfold Wf;rw[if_pos a5,if_pos (by omega)];decide,Zg l,by unfold Wf;rw[if_pos a5,if_pos (by omega)],b5⟩)
 have b9:=a1.below a3
 refine xlv 4 b9.rp ?_
 have b4:=((u7.blk (k1.below n6.below) (Ne.symm (Ne.symm a0))).below (Za W7)).below a3
 refine xsv 1 b4 [V0 ((Zg l).tx),V0 ((Zg l).time),V0 ((Zg l).unit),V0 ((Zg l).data),V0 ((Zg l).blocks),V0 ((Zg l).top),V0 ((Zg l).details),V0 ((Zg l).dslots),V0 ((Zg l).dover),V0 ((Zg l).mindex),V0 ((Zg l).mover)] fun c9 c4 c6=>?_
 have g1:=n1.ge (B4 w)
 have b7:=c4.below (bln a2 a3) g1
 exact xec 4 c6 (.tuple #[.agg #[V0 ((Zg l).tx),V0 ((Zg l).time),V0 ((Zg l).unit),V0 ((Zg l).data),V0 ((Zg l).blocks),V0 ((Zg l).top),V0 ((Zg l).details),V0 ((Zg l).dslots),V0 ((Zg l).dover),V0 ((Zg l).mindex),V0 ((Zg l).mover)],V0 0]) (.inr ⟨by unfold Wf;rw[if_pos a5,if_neg (by omega)],rfl,b7⟩)
theorem readSuper(B b:Nat)(p:O0)(n c:Nat)(l:Bl)(w:World)(hI:ImgR B b p n c l w)(bt:Nat)(kt:Blk w bt [P0 b] 24) :
 C0 39 #[P0 b,V0 0,V0 1,.func (.func 40) #[] #[P0 bt]] w (BlkSupP l w):=by
 refine zin 56 Tryz.func39 ?_
 refine xa 2 [V0 0,V0 0,V0 0,V0 0,V0 0,V0 0,V0 0,V0 0,V0 0,V0 0,V0 0] 30 fun b1 W1 n1=>?_
 refine xa 5 [V0 0,V0 0,V0 0,V0 0,V0 0,V0 0,V0 0,V0 0,V0 0,V0 0,V0 0] 30 fun b2 W2 n2=>?_
 have h0:=n2.ne n1.blk
 have hB:=bln n1.below n2.below
 refine xc 6 (args:=#[P0 b,V0 0]) (Tu B b p n c l 0 _ (hI.below hB)) ?_
 rintro e W3 i8
 rcases i8 with ⟨ho,vr,rfl,a0⟩|⟨j,hk,hj,p2,c2,rfl,a0,ho⟩
 ·refine xd 16 (.t w.heap.size [30]) ?_
  refine xm2 (.b [1,2,3]) 0 4 ?_ ?_
  ·have k2:=(n2.blk.below a0).below (Za W3)
   refine xlv 0 k2.rp ?_
   refine yc (.o [] 4) (args:=#[V0 0,.iface 89 (V0 3)]) (.t w.heap.size [30]) (Ym 0 3 _) ?_
   rintro _ W4 ⟨_,rfl,e5,f1⟩
   refine⟨(SF.of_below _ e5),?_⟩
   rw[if_neg (by decide),if_neg (by decide)] at f1
   have h7:=f1
   obtain⟨j6,j9,rfl,_,_⟩:=h7
   have c1:=(((n1.blk.below n2.below).below a0).below (Za W3)).below e5
   have g1:=n1.ge (B4 w)
   refine ysv (.o [] 5) c1 [V0 0,V0 0,V0 0,V0 0,V0 0,V0 0,V0 0,V0 0,V0 0,V0 0,V0 0] (.t w.heap.size [30]) fun W5 u5 k5=>⟨(Zl u5 c1 g1 (by decide)),?_⟩
   have e4:=u5.below (bln (bln (bln hB a0) (Za W3)) e5) g1
   have d9:=f1.upd u5 c1 (by decide)
   refine xec (.r [6] 4) k5 (.tuple #[.agg #[V0 0,V0 0,V0 0,V0 0,V0 0,V0 0,V0 0,V0 0,V0 0,V0 0,V0 0],.iface 256 (P0 j6)]) ?_
   have he:Xg l=3:=by unfold Xg;rw[Zaj hI.len ho];rfl
   exact .inl ⟨by rw[he];decide,_,rfl,e4,by rw[he];exact d9⟩
  refine yc 0 (args:=#[V0 0,.iface 89 (V0 3)]) (.t w.heap.size [30]) (Ym 0 3 _) ?_
  rintro _ W6 ⟨_,rfl,e0,f7⟩
  refine⟨(SF.of_below _ e0),?_⟩
  rw[if_neg (by decide),if_neg (by decide)] at f7
  have h9:=f7
  obtain⟨i2,k3,rfl,_,_⟩:=h9
  have k2:=((n2.blk.below a0).below (Za W3)).below e0
  refine xlv (.o [] 0) k2.rp ?_
  have b4:=(((n1.blk.below n2.below).below a0).below (Za W3)).below e0
  have g1:=n1.ge (B4 w)
  refine ysv (.o [] 5) b4 [V0 0,V0 0,V0 0,V0 0,V0 0,V0 0,V0 0,V0 0,V0 0,V0 0,V0 0] (.t w.heap.size [30]) fun W7 u7 k7=>⟨(Zl u7 b4 g1 (by decide)),?_⟩
  have e8:=u7.below (bln (bln (bln hB a0) (Za W3)) e0) g1
  have d5:=f7.upd u7 b4 (by decide)
  refine xec (.r [6] 4) k7 (.tuple #[.agg #[V0 0,V0 0,V0 0,V0 0,V0 0,V0 0,V0 0,V0 0,V0 0,V0 0,V0 0],.iface 256 (P0 i2)]) ?_
  have he:Xg l=3:=by unfold Xg;rw[Zaj hI.len ho];rfl
  exact .inl ⟨by rw[he];decide,_,rfl,e8,by rw[he];exact d5⟩
 have i3:=(bln n1.below n2.below).size
 have i7:j<l.length/256:=by rw[hI.len];exact hj
 have h5:=Hd i7
 have d6:=Zgp (l:=l) (kind:=1) hI.len hk hj
 have e7:=Zh ho i3
 refine xc 22 (args:=#[.slice p2 256 c2,V0 1,V0 0]) (Ib 1 0 p2 256 c2 (Km l j) _ h5 (Qu (Zf e7) h5)) ?_
 rintro e W8 i4
 rcases i4 with ⟨hs,rfl,a2⟩|⟨hs,p3,c3,rfl,a2,h3⟩
 ·refine xk 14 (show(((Vb 1 0 (Km l j)) != (0:Int)):Bool)=true from bne_iff_ne.2 hs) ?_
  refine xd 1 (.t w.heap.size [30]) ?_
  refine xm2 (.b [1,2,3]) 0 4 ?_ ?_
  ·have k2:=((n2.blk.below a0).below a2).below (Za W8)
   refine xlv 0 k2.rp ?_
   refine yc (.o [] 4) (args:=#[V0 0,.iface 89 (V0 (Vb 1 0 (Km l j)))]) (.t w.heap.size [30]) (Ym 0 (Vb 1 0 (Km l j)) _) ?_
   rintro _ W9 ⟨_,rfl,g6,f2⟩
   refine⟨(SF.of_below _ g6),?_⟩
   rw[if_neg hs,if_neg hs] at f2
   have h6:=f2
   obtain⟨j7,k0,rfl,_,_⟩:=h6
   have b3:=((((n1.blk.below n2.below).below a0).below a2).below (Za W8)).below g6
   have g1:=n1.ge (B4 w)
   refine ysv (.o [] 5) b3 [V0 0,V0 0,V0 0,V0 0,V0 0,V0 0,V0 0,V0 0,V0 0,V0 0,V0 0] (.t w.heap.size [30]) fun l8 e1 i1=>⟨(Zl e1 b3 g1 (by decide)),?_⟩
   have f8:=e1.below (bln (bln (bln (bln hB a0) a2) (Za W8)) g6) g1
   have d7:=f2.upd e1 b3 (by decide)
   refine xec (.r [6] 4) i1 (.tuple #[.agg #[V0 0,V0 0,V0 0,V0 0,V0 0,V0 0,V0 0,V0 0,V0 0,V0 0,V0 0],.iface 256 (P0 j7)]) ?_
   have he:Xg l=Vb 1 0 (Km l j):=by unfold Xg;rw[d6,if_neg hs]
   exact .inl ⟨by rw[he];exact hs,_,rfl,f8,by rw[he];exact d7⟩
  refine yc 0 (args:=#[V0 0,.iface 89 (V0 (Vb 1 0 (Km l j)))]) (.t w.heap.size [30]) (Ym 0 (Vb 1 0 (Km l j)) _) ?_
  rintro _ l9 ⟨_,rfl,a7,b8⟩
  refine⟨(SF.of_below _ a7),?_⟩
  rw[if_neg hs,if_neg hs] at b8
  have g0:=b8
  obtain⟨f3,j4,rfl,_,_⟩:=g0
  have k2:=(((n2.blk.below a0).below a2).below (Za W8)).below a7
  refine xlv (.o [] 0) k2.rp ?_
  have c5:=((((n1.blk.below n2.below).below a0).below a2).below (Za W8)).below a7
  have g1:=n1.ge (B4 w)
  refine ysv (.o [] 5) c5 [V0 0,V0 0,V0 0,V0 0,V0 0,V0 0,V0 0,V0 0,V0 0,V0 0,V0 0] (.t w.heap.size [30]) fun l4 g8 i6=>⟨(Zl g8 c5 g1 (by decide)),?_⟩
  have g3:=g8.below (bln (bln (bln (bln hB a0) a2) (Za W8)) a7) g1
  have c6:=b8.upd g8 c5 (by decide)
  refine xec (.r [6] 4) i6 (.tuple #[.agg #[V0 0,V0 0,V0 0,V0 0,V0 0,V0 0,V0 0,V0 0,V0 0,V0 0,V0 0],.iface 256 (P0 f3)]) ?_
  have he:Xg l=Vb 1 0 (Km l j):=by unfold Xg;rw[d6,if_neg hs]
  exact .inl ⟨by rw[he];exact hs,_,rfl,g3,by rw[he];exact c6⟩
 have h8:=(bln hB a0).size
 have d8:=Zh h3 h8
 have j2:((Km l j).drop 8).take 244=inB l 0:=(Zgc hk).symm
 have h4:=inB_len hI.len hk hj
 rw[j2] at d8
 have a6:=bln (bln hB a0) a2
 refine xc 21 (args:=#[.slice p3 244 c3,P0 bt]) (super_1 B b bt p n c l p3 c3 (inB l 0) _ (hI.below a6) (kt.below a6) h4 (Qu (Zf d8) h4)) ?_
 rintro e l2 g5
 rcases g5 with ⟨hz,s9,rfl,a1⟩|⟨hz,rfl,a1⟩
 ·refine xa 3 [V0 0,V0 0,V0 0,V0 0,V0 0,V0 0,V0 0,V0 0,V0 0,V0 0,V0 0] 30 fun k9 l3 a5=>?_
  have b0:=(((n1.blk.below n2.below).below a0).below a2).below a1
  have a3:=a5.ne b0
  have k2:=((n2.blk.below a0).below a2).below a1
  have a4:=a5.ne k2
  have b7:=bln a6 a1
  have h2:=a5.ge b7
  refine xsv 0 a5.blk [V0 s9.tx,V0 s9.time,V0 s9.unit,V0 s9.data,V0 s9.blocks,V0 s9.top,V0 s9.details,V0 s9.dslots,V0 s9.dover,V0 s9.mindex,V0 s9.mover] fun d1 d0 k8=>?_
  refine xk 10 (show(((Wf (inB l 0) (n/256)) != (0:Int)):Bool)=true from bne_iff_ne.2 hz) ?_
  refine xd 1 (.t w.heap.size [30]) ?_
  refine xm2 (.b [1,2,3]) 0 4 ?_ ?_
  ·have g2:=(d0.blk (k2.below a5.below) (Ne.symm (Ne.symm a4))).below (Za d1)
   refine xlv 0 g2.rp ?_
   refine yc (.o [] 4) (args:=#[V0 0,.iface 89 (V0 (Wf (inB l 0) (n/256)))]) (.t w.heap.size [30]) (Ym 0 (Wf (inB l 0) (n/256)) _) ?_
   rintro _ k6 ⟨_,rfl,c4,c8⟩
   refine⟨(SF.of_below _ c4),?_⟩
   rw[if_neg hz,if_neg hz] at c8
   have f5:=c8
   obtain⟨e2,j0,rfl,_,_⟩:=f5
   have b9:=((d0.blk (b0.below a5.below) (Ne.symm (Ne.symm a3))).below (Za d1)).below c4
   have g1:=n1.ge (B4 w)
   refine ysv (.o [] 5) b9 [V0 0,V0 0,V0 0,V0 0,V0 0,V0 0,V0 0,V0 0,V0 0,V0 0,V0 0] (.t w.heap.size [30]) fun l6 f6 i9=>⟨(Zl f6 b9 g1 (by decide)),?_⟩
   have e6:=f6.below (bln (bln (d0.below (bln b7 a5.below) h2) (Za d1)) c4) g1
   have a9:=c8.upd f6 b9 (by decide)
   refine xec (.r [6] 4) i9 (.tuple #[.agg #[V0 0,V0 0,V0 0,V0 0,V0 0,V0 0,V0 0,V0 0,V0 0,V0 0,V0 0],.iface 256 (P0 e2)]) ?_
   have he:Xg l=Wf (inB l 0) (n/256):=by unfold Xg;rw[d6,if_pos hs,hI.len]
   exact .inl ⟨by rw[he];exact hz,_,rfl,e6,by rw[he];exact a9⟩
  refine yc 0 (args:=#[V0 0,.iface 89 (V0 (Wf (inB l 0) (n/256)))]) (.t w.heap.size [30]) (Ym 0 (Wf (inB l 0) (n/256)) _) ?_
  rintro _ k4 ⟨_,rfl,a8,b6⟩
  refine⟨(SF.of_below _ a8),?_⟩
  rw[if_neg hz,if_neg hz] at b6
  have e3:=b6
  obtain⟨g7,j3,rfl,_,_⟩:=e3
  have g9:=((d0.blk (k2.below a5.below) (Ne.symm (Ne.symm a4))).below (Za d1)).below a8
  refine xlv (.o [] 0) g9.rp ?_
  have b5:=((d0.blk (b0.below a5.below) (Ne.symm (Ne.symm a3))).below (Za d1)).below a8
  have g1:=n1.ge (B4 w)
  refine ysv (.o [] 5) b5 [V0 0,V0 0,V0 0,V0 0,V0 0,V0 0,V0 0,V0 0,V0 0,V0 0,V0 0] (.t w.heap.size [30]) fun l7 f9 j1=>⟨(Zl f9 b5 g1 (by decide)),?_⟩
  have f4:=f9.below (bln (bln (d0.below (bln b7 a5.below) h2) (Za d1)) a8) g1
  have c7:=b6.upd f9 b5 (by decide)
  refine xec (.r [6] 4) j1 (.tuple #[.agg #[V0 0,V0 0,V0 0,V0 0,V0 0,V0 0,V0 0,V0 0,V0 0,V0 0,V0 0],.iface 256 (P0 g7)]) ?_
  have he:Xg l=Wf (inB l 0) (n/256):=by unfold Xg;rw[d6,if_pos hs,hI.len]
  exact .inl ⟨by rw[he];exact hz,_,rfl,f4,by rw[he];exact c7⟩
 refine xa 3 [V0 0,V0 0,V0 0,V0 0,V0 0,V0 0,V0 0,V0 0,V0 0,V0 0,V0 0] 30 fun l1 l0 c9=>?_
 have d2:=(((n1.blk.below n2.below).below a0).below a2).below a1
 have c0:=c9.ne d2
 have k2:=((n2.blk.below a0).below a2).below a1
 have e9:=c9.ne k2
 have d3:=bln a6 a1
 have i0:=c9.ge d3
 refine xsv 0 c9.blk [V0 ((Zg (inB l 0)).tx),V0 ((Zg (inB l 0)).time),V0 ((Zg (inB l 0)).unit),V0 ((Zg (inB l 0)).data),V0 ((Zg (inB l 0)).blocks),V0 ((Zg (inB l 0)).top),V0 ((Zg (inB l 0)).details),V0 ((Zg (inB l 0)).dslots),V0 ((Zg (inB l 0)).dover),V0 ((Zg (inB l 0)).mindex),V0 ((Zg (inB l 0)).mover)] fun k1 h1 i5=>?_
 refine xlv 15 i5.rp ?_
 have f0:=h1.blk (d2.below c9.below) (Ne.symm (Ne.symm c0))
 refine xsv 0 f0 [V0 ((Zg (inB l 0)).tx),V0 ((Zg (inB l 0)).time),V0 ((Zg (inB l 0)).unit),V0 ((Zg (inB l 0)).data),V0 ((Zg (inB l 0)).blocks),V0 ((Zg (inB l 0)).top),V0 ((Zg (inB l 0)).details),V0 ((Zg (inB l 0)).dslots),V0 ((Zg (inB l 0)).dover),V0 ((Zg (inB l 0)).mindex),V0 ((Zg (inB l 0)).mover)] fun l5 j5 j8=>?_
 have g1:=n1.ge (B4 w)
 have d4:=j5.below (h1.below (bln d3 c9.below) i0) g1
 exact xec 4 j8 (.tuple #[.agg #[V0 ((Zg (inB l 0)).tx),V0 ((Zg (inB l 0)).time),V0 ((Zg (inB l 0)).unit),V0 ((Zg (inB l 0)).data),V0 ((Zg (inB l 0)).blocks),V0 ((Zg (inB l 0)).top),V0 ((Zg (inB l 0)).details),V0 ((Zg (inB l 0)).dslots),V0 ((Zg (inB l 0)).dover),V0 ((Zg (inB l 0)).mindex),V0 ((Zg (inB l 0)).mover)],.nilIface]) (.inr ⟨by unfold Xg;rw[d6,if_pos hs,hI.len,hz],rfl,d4⟩)
theorem Fq(B b:Nat)(p:O0)(n c:Nat)(l:Bl)(w:World)(hI:ImgR B b p n c l w) :
 C0 19 #[P0 b] w (BlkSupP l w):=by
 refine zin 9 Tryz.func19 ?_
 refine xa 2 [P0 b] 24 fun b1 W1 n1=>?_
 refine xa 0 [V0 0,V0 0,V0 0,V0 0,V0 0,V0 0,V0 0,V0 0,V0 0,V0 0,V0 0] 30 fun b2 W2 n2=>?_
 have k1:=n1.blk.below n2.below
 refine xb 5 0 k1 ?_
 have hB:=bln n1.below n2.below
 refine xc 1 (args:=#[P0 b,V0 0,V0 1,.func (.func 40) #[] #[P0 b1]]) (readSuper B b p n c l _ (hI.below hB) b1 k1) ?_
 rintro e W3 a4
 rcases a4 with ⟨he,bf,rfl,a0,hv⟩|⟨he,rfl,a0⟩
 ·have k2:=n2.blk.below a0
  refine xsv 2 k2 [V0 0,V0 0,V0 0,V0 0,V0 0,V0 0,V0 0,V0 0,V0 0,V0 0,V0 0] fun W4 u4 k4=>?_
  have g2:=n2.ge n1.below
  have a2:=u4.below (bln hB a0) g2
  have a1:=hv.upd u4 k2 (by decide)
  exact xec 4 k4 (.tuple #[.agg #[V0 0,V0 0,V0 0,V0 0,V0 0,V0 0,V0 0,V0 0,V0 0,V0 0,V0 0],.iface 256 (P0 bf)]) (.inl ⟨he,_,rfl,a2,a1⟩)
 have k2:=n2.blk.below a0
 refine xsv 2 k2 [V0 ((Zg (inB l 0)).tx),V0 ((Zg (inB l 0)).time),V0 ((Zg (inB l 0)).unit),V0 ((Zg (inB l 0)).data),V0 ((Zg (inB l 0)).blocks),V0 ((Zg (inB l 0)).top),V0 ((Zg (inB l 0)).details),V0 ((Zg (inB l 0)).dslots),V0 ((Zg (inB l 0)).dover),V0 ((Zg (inB l 0)).mindex),V0 ((Zg (inB l 0)).mover)] fun W5 u5 k5=>?_
 have g2:=n2.ge n1.below
 have a3:=u5.below (bln hB a0) g2
 exact xec 4 k5 (.tuple #[.agg #[V0 ((Zg (inB l 0)).tx),V0 ((Zg (inB l 0)).time),V0 ((Zg (inB l 0)).unit),V0 ((Zg (inB l 0)).data),V0 ((Zg (inB l 0)).blocks),V0 ((Zg (inB l 0)).top),V0 ((Zg (inB l 0)).details),V0 ((Zg (inB l 0)).dslots),V0 ((Zg (inB l 0)).dover),V0 ((Zg (inB l 0)).mindex),V0 ((Zg (inB l 0)).mover)],.nilIface]) (.inr ⟨he,rfl,a3⟩)
end Go.Proofs.YtceeiinepijokaaGreat
