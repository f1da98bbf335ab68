/- (*walker).note: an error noted at the blocks of the way. -/
import Derived.Test.YtoiblgeheblddaaNote1
namespace Go.Proofs.Ytoiblgeheblddaa
open Go.RowKit Go.Extern.Stop Go.Stop Go.Extern
set_option linter.unusedVariables false
attribute [local irreducible] wpList wpAnyH Code.wp Oper.wp

attribute [local go_sem] Oper.semAt_some
theorem Upd.of_put (w : World) (D : Nat) (o : Obj) : Upd w D (w.putObj D o) := ⟨rfl, rfl, rfl, by simp [World.putObj], fun k hk => World.putObj_heap_other hk⟩
/-- a record of deferred calls at block D -/
def Dfr (D : Nat) (w : World) : Prop := w.heap[D]? = some (.deferred (some []))
theorem Dfr.below {D : Nat} {w W : World} (h : Dfr D w) (hb : Below w.heap.size w W) : Dfr D W := (hb.block D (Array.getElem?_eq_some_iff.1 h).1).trans h
theorem Dfr.ne {D b : Nat} {w : World} {cs : List Value} {t : TypeId} (h : Dfr D w) (k : Blk w b cs t) : b ≠ D := by
  rintro rfl
  have h' : w.heap[b]? = _ := h
  rw [show w.heap[b]? = _ from k] at h'
  cases h'
theorem Dfr.upd {D b : Nat} {w W : World} {cs : List Value} {t : TypeId} (h : Dfr D w) (u : Upd w b W) (k : Blk w b cs t) : Dfr D W := (u.block D fun e => h.ne k e.symm).trans h
theorem Dfr.row {D : Nat} {w : World} {base e size n : Nat} {v : Value} {xs : List Value} (h : Dfr D w) (k : w.ownsRow base e size v n xs) : ∀ g, v.ownBlock = some g → g ≠ D := by
  rintro g hg rfl
  rcases k.2 with ⟨rfl, _⟩ | ⟨g', cap, cur, rfl, _, hh, _⟩
  · cases hg
  · simp only [Value.ownBlock, Option.some.injEq] at hg
    subst hg
    rw [show w.heap[g']? = _ from h] at hh
    cases hh
theorem Dfr.grown {D : Nat} {w W : World} {base e size n : Nat} {v : Value} {xs : List Value} (h : Dfr D w) (hg : w.grownBy W v.ownBlock) (k : w.ownsRow base e size v n xs) : Dfr D W :=
  (hg.block D (Array.getElem?_eq_some_iff.1 h).1 fun q => h.row k D q.symm rfl).trans h
theorem g_endM {P : Program} {fn : Func} {R : Ending → World → Prop} {a : Act} {w : World} {D : Nat} (hK : Dfr D w) (v : Value) (hd : a.defers = [{ target := .collected D, args := #[] }]) (hr : (results fn a.tmps).run P (w.putObj D (.deferred none)) = .ok v (w.putObj D (.deferred none))) (h : R (.returned v) (w.putObj D (.deferred none))) : bodyPostM Fence.wide 4 P fn R .normal a w :=
  by
  show LeavesInM _ _ _ _ a.tmps R a.defers .returning w
  rw [hd]
  exact ⟨by simp, .inl ⟨_, _, rfl, run_takeDeferred hK, _, hr, h⟩⟩
def noPan (Q : Exit → Act → World → Prop) : Exit → Act → World → Prop
  | .normal, a, w => Q .normal a w
  | .ret, a, w => Q .ret a w
  | _, _, _ => False
theorem g_nopan {P : Program} {c : Code} {Q : Exit → Act → World → Prop} {a : Act} {w : World} (h : c.wp P (noPan Q) a w) : c.wp P Q a w := wp_mono h fun e a w q => by cases e <;> first | exact q | exact q.elim
theorem own_ty_ne {w : World} {base size n b : Nat} {e t : TypeId} {v : Value} {xs cs : List Value} (k : w.ownsRow base e size v n xs) (q : Blk w b cs t) (hne : e ≠ t) : ∀ g, v.ownBlock = some g → g ≠ b := by
  rintro g hg rfl
  rcases k.2 with ⟨rfl, _⟩ | ⟨g', cap, cur, rfl, _, hh, _⟩
  · cases hg
  · simp only [Value.ownBlock, Option.some.injEq] at hg
    subst hg
    rw [show w.heap[g']? = _ from q] at hh
    simp only [Option.some.injEq, Obj.cells.injEq] at hh
    exact hne hh.2.1.symm
theorem keepsO_below {w W : World} (h : Below w.heap.size w W) : KeepsOthers w W := ⟨h.size, fun b o hb _ => (h.block b (Array.getElem?_eq_some_iff.1 hb).1).trans hb⟩
theorem keepsO_upd {w W : World} {b : Nat} {cs : List Value} {t : TypeId} (u : Upd w b W) (k : Blk w b cs t) : KeepsOthers w W := ⟨Nat.le_of_eq u.size.symm, fun d o hd ho => (u.block d (by rintro rfl; rw [show w.heap[d]? = _ from k] at hd; cases hd; cases ho)).trans hd⟩
theorem Dfr.only_new {T : List TypeId} {a w W : World} {b : Nat} (h : Only T a w) (hbb : BelowBut w b W) (hb : a.heap.size ≤ b) : Only T a W := fun k cs t fr hk ht => by
  have h0 := (Array.getElem?_eq_some_iff.1 hk).1
  have h1 := h k cs t fr hk ht
  rw [hbb.block k (Array.getElem?_eq_some_iff.1 h1).1 (by omega)]; exact h1
theorem BelowBut.own3 {w W : World} {b base size n : Nat} {e : TypeId} {v : Value} {xs : List Value} (h : BelowBut w b W) (k : w.ownsRow base e size v n xs) (hs : ∀ j, v.ownBlock = some j → j ≠ b) : W.ownsRow base e size v n xs := by
  obtain ⟨h1, h2⟩ := k
  refine ⟨h1, ?_⟩
  rcases h2 with h2 | ⟨g, cap, cur, rfl, hg, hh, r⟩
  · exact Or.inl h2
  · exact Or.inr ⟨g, cap, cur, rfl, hg, by rw [h.block g (Array.getElem?_eq_some_iff.1 hh).1 (hs g rfl)]; exact hh, r⟩
theorem ownFrom_but {β : Type} {w : World} {b B : Nat} (hB : w.heap.size ≤ B) : OwnFrom B (fun (_ : β) W => BelowBut w b W) := fun _ W W' row hs hg hr =>
  ⟨hg.os.trans hs.os, hg.tape.trans hs.tape, hg.output.trans hs.output, Nat.le_trans hs.size hg.size, fun k hk hne => (hg.block k (Nat.lt_of_lt_of_le hk hs.size) (fun e => by have := (hr k e.symm).1; omega)).trans (hs.block k hk hne)⟩
theorem ErrV.turn {A B : World} {row : Option Nat} {l : List (Option Int)} {c : Option Int} {v : Value} (h : ErrV A l c v) (hg : A.grownBy B row) (hr : ∀ r, row = some r → ∃ o : Obj, A.heap[r]? = some o ∧ o.isCells = false) : ErrV B l c v := h.kept fun _ _ k => k.turn hg hr
/-- the blocks of the way, seen from below -/
def atW (way : List Int) (pre : List (Fin way.length)) (bs : List Int) : List Int := (pre.map fun j => way[qOf j]?.getD 0).reverse ++ bs
theorem atW_snoc (way : List Int) (pre : List (Fin way.length)) (x : Fin way.length) (bs : List Int) : atW way (pre ++ [x]) bs = (way[qOf x]?.getD 0) :: atW way pre bs := by simp [atW]
theorem atW_all (way bs : List Int) : atW way (List.finRange way.length) bs = way ++ bs := by
  unfold atW
  congr 1
  apply List.ext_getElem
  · simp
  · intro i h1 h2
    simp only [List.length_reverse, List.length_map, List.length_finRange] at h1
    rw [List.getElem_reverse, List.getElem_map]
    simp only [List.length_map, List.length_finRange, List.getElem_finRange, qOf]
    have e : way.length - 1 - (way.length - 1 - i) = i := by omega
    simp [e, h2]
theorem ErrV.one {w : World} {l : List (Option Int)} {c : Option Int} {v : Value} (h : ErrV w l c v) : v.oneCell' = true := by
  rcases h.nil_or with ⟨_, rfl⟩ | ⟨_, t, x, rfl⟩ <;> rfl
theorem ErrV.iface {w : World} {l : List (Option Int)} {c : Int} {v : Value} (h : ErrV w l (some c) v) : ∃ t x, v = .iface t x := by
  rcases h.nil_or with ⟨q, _⟩ | ⟨_, q⟩
  · simp [noErr] at q
  · exact q
theorem atL_some {b c : Int} {l : List (Option Int)} : atL b l (some c) = some b :: l := by simp [atL, noErr]
theorem one_one {v : Value} (h : v.oneCell' = true) : ∀ u ∈ [v], u.oneCell' = true := by simpa using h
def NoteP (B bw : Nat) (c0 c1 c2 c3 c5 c6 c7 c8 c9 : Value) (nf : Nat) (fs : List Value) (l : List Int) (ec : Int) (w : World) (e : Ending) (w' : World) : Prop :=
  ∃ u p c ty x, e = .returned u ∧ Below B w w' ∧ Only [53, 38] w w' ∧ Blk w' bw [c0, c1, c2, c3, .slice p (nf + 1) c, c5, c6, c7, c8, c9] 53 ∧ w'.ownsRow B 38 1 (.slice p (nf + 1) c) (nf + 1) (fs ++ [.iface ty x]) ∧ ErrV w' (l.map some) (some ec) (.iface ty x)
set_option maxRecDepth 100000 in
set_option maxHeartbeats 4000000 in
theorem walker_note (B bw : Nat) (c0 c1 c2 c3 c5 c6 c7 c9 : Value) (pf : Option Addr) (nf cf : Nat) (fs : List Value) (pw : Option Addr) (cw : Nat) (way bs : List Int) (ec : Int) (ty : TypeId) (ev : Value) (w : World) (hBb : B ≤ bw) (hBw : B ≤ w.heap.size) (kW : Blk w bw [c0, c1, c2, c3, .slice pf nf cf, c5, c6, c7, .slice pw way.length cw, c9] 53) (hF : w.ownsRow B 38 1 (.slice pf nf cf) nf fs) (hway : w.ownsRow B 3 1 (.slice pw way.length cw) way.length (way.map (Value.int .i64))) (hE : ErrV w (bs.map some) (some ec) (.iface ty ev)) (hwl : way.length ≤ 1000000) (hnf : nf ≤ 1000000) :
    Calls Try.prog 28 #[.pointer (some ⟨bw, 0, none⟩), .iface ty ev] w (NoteP B bw c0 c1 c2 c3 c5 c6 c7 (.slice pw way.length cw) c9 nf fs (way ++ bs) ec w) := by
  refine calls_of_marks Try.func28 rfl ?_
  refine g_fr ⟨#[.pointer (some ⟨bw, 0, none⟩), .iface ty ev, undef, undef, undef, undef, undef, undef, undef, undef, undef, undef, undef, undef, undef, undef, undef, undef, undef, undef, undef, undef, undef, undef, undef, undef, undef, undef], []⟩ (by kernel_rfl) ?_
  refine wp_seq ?_
  refine wp_region_lit ?_
  refine g_op (by kernel_rfl) (op_box [.iface ty ev] rfl (by kernel_rfl) ?_)
  intro b1 W1 n1
  have d1_bw := n1.ne kW
  have g1 := n1.ge0 (Below.refl B _)
  have r1_hF := own_ne hF n1
  have hO : Only [53, 38] w _ := (Only.of_below n1.below)
  have hB := Bl.nextB (Below.refl B w) hBw n1.below
  replace kW := kW.below n1.below
  replace hF := own_below hF n1.below
  replace hway := own_below hway n1.below
  replace hE := hE.below n1.below
  have k1 := n1.blk
  refine wpList_nil ?_
  refine wp_seq ?_
  refine wp_seq ?_
  refine wp_region_lit ?_
  refine g_pv 3 [(6, .pointer (some ⟨bw, 0, none⟩)), (7, .pointer (some ⟨bw, 0, none⟩)), (8, .pointer (some ⟨bw, 8, none⟩))] (by kernel_rfl) ?_
  refine g_op (by kernel_rfl) (op_load ⟨bw, 8, none⟩ (.slice pw way.length cw) rfl (by kernel_rfl) (by kernel_rfl) (kW.cell (i := 8) rfl) ?_)
  have lt2_bw := kW.lt
  have lt2_b1 := k1.lt
  have hs2 : w.heap.size ≤ (W1).heap.size := hB.size
  refine g_op (by kernel_rfl) (op_call (lb := #[]) 49 #[.slice pw way.length cw] rfl (by kernel_rfl) (fun _ _ => by kernel_rfl) (by kernel_rfl) ((slices_Backward pw way.length cw _).mono ?_))
  rintro e W2 ⟨bk2, rfl, hb2, hg2, kk2⟩
  refine ⟨_, rfl, ?_⟩
  replace hO := hO.trans (Only.of_below hb2)
  replace hB := Bl.nextB hB hBw hb2
  replace kW := kW.below hb2
  replace k1 := k1.below hb2
  replace hF := own_below hF hb2
  replace hway := own_below hway hb2
  replace hE := hE.below hb2
  have gb2 : w.heap.size ≤ bk2 := Nat.le_trans hs2 hg2
  have nb2_bw : bk2 ≠ bw := by omega
  have nb2_b1 : bk2 ≠ b1 := by omega
  refine wpList_nil ?_
  refine wp_block ?_
  have hzk := kk2.lt
  have hz3 := k1.lt
  have hst := back_stops bk2 (fun b => b < W2.heap.size ∧ b ≠ b1) (.slice pw way.length cw) way W2 (fun b h => h.1) ⟨hzk, nb2_b1⟩ (by omega) (own_sl hway) (fun _ b off n cap q => by cases q; exact ⟨(hway.lt b rfl).2, own_ty_ne hway k1 (by decide) b rfl⟩) (kk2.cell (i := 0) rfl)
  refine g_fr ⟨#[.pointer (some ⟨bw, 0, none⟩), .iface ty ev, undef, .pointer (some ⟨b1, 0, none⟩), undef, undef, .pointer (some ⟨bw, 0, none⟩), .pointer (some ⟨bw, 0, none⟩), .pointer (some ⟨bw, 8, none⟩), .slice pw way.length cw, .func (.func 68) #[] #[.pointer (some ⟨bk2, 0, none⟩)], undef, undef, undef, undef, undef, undef, undef, undef, undef, undef, undef, undef, undef, undef, undef, undef, undef], []⟩ (by kernel_rfl) ?_
  refine wp_range (g := .tmp 10) (gf := 68) (lb := #[.pointer (some ⟨bk2, 0, none⟩)]) rfl (enters_of Try.func68 (by kernel_rfl) rfl) _ (fun b h => h.1) hst (fun _ => rfl)
    (fun pre W => (∃ v', Blk W b1 [v'] 38 ∧ ErrV W ((atW way pre bs).map some) (some ec) v') ∧ BelowBut W2 b1 W)
    (fun _ _ _ => False) ?own (fun _ _ _ _ _ h _ _ => h) ⟨⟨_, k1, hE⟩, (Below.refl _ _).but _⟩
    (fun x a' _ => a' = { tmps := #[.pointer (some ⟨bw, 0, none⟩), .iface ty ev, undef, .pointer (some ⟨b1, 0, none⟩), undef, .int .i64 (way[qOf x]?.getD 0), .pointer (some ⟨bw, 0, none⟩), .pointer (some ⟨bw, 0, none⟩), .pointer (some ⟨bw, 8, none⟩), .slice pw way.length cw, .func (.func 68) #[] #[.pointer (some ⟨bk2, 0, none⟩)], .int .i64 (qOf x : Int), .int .i64 (way[qOf x]?.getD 0), undef, undef, undef, undef, undef, undef, undef, undef, undef, undef, undef, undef, undef, undef, undef], defers := [] }) (fun _ _ _ _ _ _ h _ _ => h) ?assign ?body ?done (fun _ _ _ _ _ _ h _ => h.elim)
  case own => exact OwnFrom.and (Own.from (fun s A B row hs hg hr => by obtain ⟨v', h1, h2⟩ := hs; exact ⟨v', h1.turn hg hr, h2.turn hg hr⟩) _) (ownFrom_but (Nat.le_refl _))
  case assign =>
    rintro lr pre x W K hI hK
    unfold encB
    gi_wp2
    exact hK _ _ (KeepsFrom.refl _ _) (Keeps.refl _ _) hI rfl
  case body =>
    rintro lr pre x a' W hlr ⟨⟨v', m3, hv'⟩, hbb⟩ rfl hlt
    have mc := m3.cell (i := 0) rfl
    gi_wp2_with (refine ⟨trivial, ?_⟩; gi_at_call 29; refine (CallsIn.inRound lr (callsIn_wide.2 (fault_At _ _ _ _ _ hv'))).mono ?_; rintro e w2 ⟨r2, rfl, hb2, hE2⟩; obtain ⟨t2, x2, rfl⟩ := hE2.iface; have m4 := m3.below hb2; have mg := m4.frozen 0; have md := m4.cell (i := 0) rfl)
    have hb2s := hb2.size
    have u2 := Upd.setCell w2 b1 0 (.iface t2 x2)
    exact ⟨((keepsO_below hb2).trans (KeepsOthers.setCell _ _ _)).from _, Keeps.setCell (Keeps.of_below hb2 (fun b hb => by have := hbb.size; have := hb.1; omega)) (fun hb => hb.2 rfl) _, ⟨_, m4.set 0 _, by rw [atW_snoc, List.map_cons, ← atL_some (c := ec)]; exact (hE2.upd u2 m4 (by decide))⟩, (hbb.next hb2).upd u2⟩
  case done =>
  rintro D xs W hD rfl ⟨⟨v', m3, hv'⟩, hbb⟩ hK0
  rw [atW_all] at hv'
  have hK : Dfr D W := hK0; clear hK0
  refine g_nopan ?_
  refine g_fr ⟨#[.pointer (some ⟨bw, 0, none⟩), .iface ty ev, undef, .pointer (some ⟨b1, 0, none⟩), undef, undef, .pointer (some ⟨bw, 0, none⟩), .pointer (some ⟨bw, 0, none⟩), .pointer (some ⟨bw, 8, none⟩), .slice pw way.length cw, .func (.func 68) #[] #[.pointer (some ⟨bk2, 0, none⟩)], undef, undef, undef, undef, undef, undef, undef, undef, undef, undef, undef, undef, undef, undef, undef, undef, undef], [{ target := .collected D, args := #[] }]⟩ (by kernel_rfl) ?_
  have hv1 := hv'.one
  obtain ⟨ty', x', rfl⟩ := hv'.iface
  have hDB : w.heap.size ≤ D := Nat.le_trans (Nat.le_trans (by have := hz3; have := g1; omega) (Nat.le_refl _)) hD
  replace kW := hbb.blk kW (Ne.symm (Ne.symm d1_bw))
  replace kk2 := hbb.blk kk2 nb2_b1
  replace hF := hbb.own3 hF r1_hF
  replace hway := hbb.own2 hway k1 (by decide)
  have hB0 := hB
  replace hB := hbb.below hB (Nat.le_trans hBw g1) (Nat.le_trans hBw hB0.size)
  replace hO := Dfr.only_new hO hbb g1
  replace k1 := m3
  replace hO := hO.trans (Only.of_below (below_drew W))
  replace hB := Bl.nextB hB hBw (below_drew W)
  replace kW := kW.below (below_drew W)
  replace k1 := k1.below (below_drew W)
  replace kk2 := kk2.below (below_drew W)
  replace hF := own_below hF (below_drew W)
  replace hway := own_below hway (below_drew W)
  replace hv' := hv'.below (below_drew W)
  replace hK := hK.below (below_drew W)
  refine h_reg (Below B (W.drew)) 13 rfl #[false, false, false, false, false, false, false, false, false, false, false, false, false] rfl (by kernel_rfl) (Below.refl _ _) ?_
  intro hS3
  have hBd5 := hB
  have kd5_bw := kW
  have kd5_b1 := k1
  have kd5_bk2 := kk2
  have hOd5 := hO
  refine h_pv [0, 1, 2, 3, 4] 8 rfl #[true, true, true, true, true, false, false, false, false, false, false, false, false] [(16, .pointer (some ⟨bw, 0, none⟩)), (17, .pointer (some ⟨bw, 0, none⟩)), (18, .pointer (some ⟨bw, 0, none⟩)), (19, .pointer (some ⟨bw, 0, none⟩)), (20, .pointer (some ⟨bw, 4, none⟩))] (by kernel_rfl) (fun _ _ _ _ _ h => h) (by kernel_rfl) hS3 ?_
  refine h_two 5 6 7 rfl (by kernel_rfl) rfl rfl (by kernel_rfl) (by kernel_rfl) ?_ ?_
  · refine op_load ⟨bw, 4, none⟩ (.slice pf nf cf) rfl (by kernel_rfl) (by kernel_rfl) (kW.cell (i := 4) rfl) ?_
    have hS6 : Below B (W.drew) (W.drew) := hS3
    refine ⟨hS6, ?_⟩
    refine h_one 6 6 rfl (by kernel_rfl) rfl (by kernel_rfl) (op_load ⟨b1, 0, none⟩ (.iface ty' x') rfl (by kernel_rfl) (by kernel_rfl) (k1.cell (i := 0) rfl) ?_)
    have hS7 : Below B (W.drew) (W.drew) := hS6
    refine ⟨hS7, ?_⟩
    refine h_one 7 5 rfl (by kernel_rfl) rfl (by kernel_rfl) (op_buildSlice 38 [.iface ty' x'] rfl (by kernel_rfl) ?_)
    intro b8 W8 n8
    have d8_bw := n8.ne kW
    have d8_b1 := n8.ne k1
    have d8_bk2 := n8.ne kk2
    have g8 := n8.ge0 hB
    have r8_hF := own_ne hF n8
    replace hO := hO.trans (Only.of_below n8.below)
    replace hB := Bl.nextB hB hBw n8.below
    replace kW := kW.below n8.below
    replace k1 := k1.below n8.below
    replace kk2 := kk2.below n8.below
    replace hF := own_below hF n8.below
    replace hway := own_below hway n8.below
    replace hv' := hv'.below n8.below
    replace hK := hK.below n8.below
    have k8 := n8.blk
    have hS9 : Below B (W.drew) (W8) := Bl.nextB hS7 (Nat.le_trans hBw hBd5.size) n8.below
    refine ⟨hS9, ?_⟩
    refine h_one 8 4 rfl (by kernel_rfl) rfl (by kernel_rfl) (op_app (e := 38) (n := nf) (xs := fs) (m := 1) (news := [.iface ty' x']) (.nilIface) 1 16 (nf + 1) (fs ++ [.iface ty' x']) rfl Try.underlying28 (by kernel_rfl) rfl (by decide) (by kernel_rfl) hF (by kernel_rfl) (k8.sl 1 1 (by decide) (by decide)) rfl (one_one hv1) (by unfold maxLen; omega) (by omega) (Nat.le_trans hBw hB.size) (by simp) (by simp) ?_)
    intro p10 c10 W10 o10 hg10 hb10
    replace hO := hO.trans (Only.of_grown hg10 hF (by decide))
    replace kW := kW.grown hg10 hF (by decide)
    replace k1 := k1.grown3 hg10 r1_hF
    replace kk2 := kk2.grown hg10 hF (by decide)
    replace hway := own_grown hway hg10 hF (by decide)
    replace hv' := hv'.grown hg10 hF (by decide)
    replace hK := hK.grown hg10 hF
    replace hB := hB.trans hb10
    have hS11 : Below B (W.drew) (W10) := hS9.trans hb10
    refine ⟨hS11, ?_⟩
    refine h_pv [9, 10, 11] 1 rfl #[true, true, true, true, true, true, true, true, true, true, true, true, false] [(25, .pointer (some ⟨bw, 0, none⟩)), (26, .pointer (some ⟨bw, 0, none⟩)), (27, .pointer (some ⟨bw, 4, none⟩))] (by kernel_rfl) (fun _ _ _ _ _ h => h) (by kernel_rfl) hS11 ?_
    refine h_one 12 0 rfl (by kernel_rfl) rfl (by kernel_rfl) (op_store (v := .slice p10 (nf + 1) c10) (b := bw) (off := 4) rfl (by kernel_rfl) (by kernel_rfl) (by kernel_rfl) rfl kW (by first | decide | simp) ?_)
    intro W12 u12 k12
    change Blk _ _ [c0, c1, c2, c3, .slice p10 (nf + 1) c10, c5, c6, c7, .slice pw way.length cw, c9] _ at k12
    replace hO := hO.trans (Only.of_upd u12 kW (by decide))
    replace hB := u12.below hB hBb
    replace k1 := u12.blk k1 (Ne.symm d1_bw)
    replace kk2 := u12.blk kk2 nb2_bw
    replace hway := u12.own2 hway kW (by decide)
    replace hv' := hv'.upd u12 kW (by decide)
    replace hK := hK.upd u12 kW
    replace o10 := u12.own2 o10 kW (by decide)
    have hS13 : Below B (W.drew) (W12) := u12.below hS11 hBb
    refine ⟨hS13, ?_⟩
    refine h_done _ (by kernel_rfl) ?_
    exact g_endM hK (.tuple #[]) (by kernel_rfl) (by kernel_rfl) ⟨_, _, _, _, _, rfl, (Upd.of_put _ _ _).below hB (Nat.le_trans hBw hDB), Only.upd_new hO (Upd.of_put _ _ _) hDB, (Upd.of_put _ _ _).blk k12 (hK.ne k12), (Upd.of_put _ _ _).own3 o10 (hK.row o10), hv'.kept fun _ _ q => (Upd.of_put _ _ _).blk q (hK.ne q)⟩
  · refine op_load ⟨b1, 0, none⟩ (.iface ty' x') rfl (by kernel_rfl) (by kernel_rfl) (k1.cell (i := 0) rfl) ?_
    have hS14 : Below B (W.drew) (W.drew) := hS3
    refine ⟨hS14, ?_⟩
    refine h_two 5 7 6 rfl (by kernel_rfl) rfl rfl (by kernel_rfl) (by kernel_rfl) ?_ ?_
    · refine op_load ⟨bw, 4, none⟩ (.slice pf nf cf) rfl (by kernel_rfl) (by kernel_rfl) (kW.cell (i := 4) rfl) ?_
      have hS15 : Below B (W.drew) (W.drew) := hS14
      refine ⟨hS15, ?_⟩
      refine h_one 7 5 rfl (by kernel_rfl) rfl (by kernel_rfl) (op_buildSlice 38 [.iface ty' x'] rfl (by kernel_rfl) ?_)
      intro b16 W16 n16
      have d16_bw := n16.ne kW
      have d16_b1 := n16.ne k1
      have d16_bk2 := n16.ne kk2
      have g16 := n16.ge0 hB
      have r16_hF := own_ne hF n16
      replace hO := hO.trans (Only.of_below n16.below)
      replace hB := Bl.nextB hB hBw n16.below
      replace kW := kW.below n16.below
      replace k1 := k1.below n16.below
      replace kk2 := kk2.below n16.below
      replace hF := own_below hF n16.below
      replace hway := own_below hway n16.below
      replace hv' := hv'.below n16.below
      replace hK := hK.below n16.below
      have k16 := n16.blk
      have hS17 : Below B (W.drew) (W16) := Bl.nextB hS15 (Nat.le_trans hBw hBd5.size) n16.below
      refine ⟨hS17, ?_⟩
      refine h_one 8 4 rfl (by kernel_rfl) rfl (by kernel_rfl) (op_app (e := 38) (n := nf) (xs := fs) (m := 1) (news := [.iface ty' x']) (.nilIface) 1 16 (nf + 1) (fs ++ [.iface ty' x']) rfl Try.underlying28 (by kernel_rfl) rfl (by decide) (by kernel_rfl) hF (by kernel_rfl) (k16.sl 1 1 (by decide) (by decide)) rfl (one_one hv1) (by unfold maxLen; omega) (by omega) (Nat.le_trans hBw hB.size) (by simp) (by simp) ?_)
      intro p18 c18 W18 o18 hg18 hb18
      replace hO := hO.trans (Only.of_grown hg18 hF (by decide))
      replace kW := kW.grown hg18 hF (by decide)
      replace k1 := k1.grown3 hg18 r1_hF
      replace kk2 := kk2.grown hg18 hF (by decide)
      replace hway := own_grown hway hg18 hF (by decide)
      replace hv' := hv'.grown hg18 hF (by decide)
      replace hK := hK.grown hg18 hF
      replace hB := hB.trans hb18
      have hS19 : Below B (W.drew) (W18) := hS17.trans hb18
      refine ⟨hS19, ?_⟩
      refine h_pv [9, 10, 11] 1 rfl #[true, true, true, true, true, true, true, true, true, true, true, true, false] [(25, .pointer (some ⟨bw, 0, none⟩)), (26, .pointer (some ⟨bw, 0, none⟩)), (27, .pointer (some ⟨bw, 4, none⟩))] (by kernel_rfl) (fun _ _ _ _ _ h => h) (by kernel_rfl) hS19 ?_
      refine h_one 12 0 rfl (by kernel_rfl) rfl (by kernel_rfl) (op_store (v := .slice p18 (nf + 1) c18) (b := bw) (off := 4) rfl (by kernel_rfl) (by kernel_rfl) (by kernel_rfl) rfl kW (by first | decide | simp) ?_)
      intro W20 u20 k20
      change Blk _ _ [c0, c1, c2, c3, .slice p18 (nf + 1) c18, c5, c6, c7, .slice pw way.length cw, c9] _ at k20
      replace hO := hO.trans (Only.of_upd u20 kW (by decide))
      replace hB := u20.below hB hBb
      replace k1 := u20.blk k1 (Ne.symm d1_bw)
      replace kk2 := u20.blk kk2 nb2_bw
      replace hway := u20.own2 hway kW (by decide)
      replace hv' := hv'.upd u20 kW (by decide)
      replace hK := hK.upd u20 kW
      replace o18 := u20.own2 o18 kW (by decide)
      have hS21 : Below B (W.drew) (W20) := u20.below hS19 hBb
      refine ⟨hS21, ?_⟩
      refine h_done _ (by kernel_rfl) ?_
      exact g_endM hK (.tuple #[]) (by kernel_rfl) (by kernel_rfl) ⟨_, _, _, _, _, rfl, (Upd.of_put _ _ _).below hB (Nat.le_trans hBw hDB), Only.upd_new hO (Upd.of_put _ _ _) hDB, (Upd.of_put _ _ _).blk k20 (hK.ne k20), (Upd.of_put _ _ _).own3 o18 (hK.row o18), hv'.kept fun _ _ q => (Upd.of_put _ _ _).blk q (hK.ne q)⟩
    · refine op_buildSlice 38 [.iface ty' x'] rfl (by kernel_rfl) ?_
      intro b22 W22 n22
      have d22_bw := n22.ne kW
      have d22_b1 := n22.ne k1
      have d22_bk2 := n22.ne kk2
      have g22 := n22.ge0 hB
      have r22_hF := own_ne hF n22
      replace hO := hO.trans (Only.of_below n22.below)
      replace hB := Bl.nextB hB hBw n22.below
      replace kW := kW.below n22.below
      replace k1 := k1.below n22.below
      replace kk2 := kk2.below n22.below
      replace hF := own_below hF n22.below
      replace hway := own_below hway n22.below
      replace hv' := hv'.below n22.below
      replace hK := hK.below n22.below
      have k22 := n22.blk
      have hS23 : Below B (W.drew) (W22) := Bl.nextB hS14 (Nat.le_trans hBw hBd5.size) n22.below
      refine ⟨hS23, ?_⟩
      refine h_one 5 5 rfl (by kernel_rfl) rfl (by kernel_rfl) (op_load ⟨bw, 4, none⟩ (.slice pf nf cf) rfl (by kernel_rfl) (by kernel_rfl) (kW.cell (i := 4) rfl) ?_)
      have hS24 : Below B (W.drew) (W22) := hS23
      refine ⟨hS24, ?_⟩
      refine h_one 8 4 rfl (by kernel_rfl) rfl (by kernel_rfl) (op_app (e := 38) (n := nf) (xs := fs) (m := 1) (news := [.iface ty' x']) (.nilIface) 1 16 (nf + 1) (fs ++ [.iface ty' x']) rfl Try.underlying28 (by kernel_rfl) rfl (by decide) (by kernel_rfl) hF (by kernel_rfl) (k22.sl 1 1 (by decide) (by decide)) rfl (one_one hv1) (by unfold maxLen; omega) (by omega) (Nat.le_trans hBw hB.size) (by simp) (by simp) ?_)
      intro p25 c25 W25 o25 hg25 hb25
      replace hO := hO.trans (Only.of_grown hg25 hF (by decide))
      replace kW := kW.grown hg25 hF (by decide)
      replace k1 := k1.grown3 hg25 r1_hF
      replace kk2 := kk2.grown hg25 hF (by decide)
      replace hway := own_grown hway hg25 hF (by decide)
      replace hv' := hv'.grown hg25 hF (by decide)
      replace hK := hK.grown hg25 hF
      replace hB := hB.trans hb25
      have hS26 : Below B (W.drew) (W25) := hS24.trans hb25
      refine ⟨hS26, ?_⟩
      refine h_pv [9, 10, 11] 1 rfl #[true, true, true, true, true, true, true, true, true, true, true, true, false] [(25, .pointer (some ⟨bw, 0, none⟩)), (26, .pointer (some ⟨bw, 0, none⟩)), (27, .pointer (some ⟨bw, 4, none⟩))] (by kernel_rfl) (fun _ _ _ _ _ h => h) (by kernel_rfl) hS26 ?_
      refine h_one 12 0 rfl (by kernel_rfl) rfl (by kernel_rfl) (op_store (v := .slice p25 (nf + 1) c25) (b := bw) (off := 4) rfl (by kernel_rfl) (by kernel_rfl) (by kernel_rfl) rfl kW (by first | decide | simp) ?_)
      intro W27 u27 k27
      change Blk _ _ [c0, c1, c2, c3, .slice p25 (nf + 1) c25, c5, c6, c7, .slice pw way.length cw, c9] _ at k27
      replace hO := hO.trans (Only.of_upd u27 kW (by decide))
      replace hB := u27.below hB hBb
      replace k1 := u27.blk k1 (Ne.symm d1_bw)
      replace kk2 := u27.blk kk2 nb2_bw
      replace hway := u27.own2 hway kW (by decide)
      replace hv' := hv'.upd u27 kW (by decide)
      replace hK := hK.upd u27 kW
      replace o25 := u27.own2 o25 kW (by decide)
      have hS28 : Below B (W.drew) (W27) := u27.below hS26 hBb
      refine ⟨hS28, ?_⟩
      refine h_done _ (by kernel_rfl) ?_
      exact g_endM hK (.tuple #[]) (by kernel_rfl) (by kernel_rfl) ⟨_, _, _, _, _, rfl, (Upd.of_put _ _ _).below hB (Nat.le_trans hBw hDB), Only.upd_new hO (Upd.of_put _ _ _) hDB, (Upd.of_put _ _ _).blk k27 (hK.ne k27), (Upd.of_put _ _ _).own3 o25 (hK.row o25), hv'.kept fun _ _ q => (Upd.of_put _ _ _).blk q (hK.ne q)⟩
end Go.Proofs.Ytoiblgeheblddaa

