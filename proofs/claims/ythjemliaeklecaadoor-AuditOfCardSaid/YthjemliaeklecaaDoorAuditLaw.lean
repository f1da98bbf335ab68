/- The law AuditOf, walked. -/
import Derived.Test.YthjemliaeklecaaDoorAudit
import Derived.Test.YthjemliaeklecaaDoorErrWraps
import Derived.Laws.StructEq
namespace Go.Proofs.YthjemliaeklecaaDoor
open Go.RowKit Go.Extern.Stop Go.Stop Go.Extern
set_option linter.unusedVariables false

theorem held3e {W V V' : World} {p0 p1 p2 p3 p4 : Addr} {v0 v1 v2 v3 v4 : Value} (hb : Below V.heap.size V V') (h : V.cell? p0 = some v0 ∧ V.cell? p1 = some v1 ∧ V.cell? p2 = some v2 ∧ V.cell? p3 = some v3 ∧ V.cell? p4 = some v4 ∧ Below W.heap.size W V) : V'.cell? p0 = some v0 ∧ V'.cell? p1 = some v1 ∧ V'.cell? p2 = some v2 ∧ V'.cell? p3 = some v3 ∧ V'.cell? p4 = some v4 ∧ Below W.heap.size W V' :=
  ⟨getC hb h.1, getC hb h.2.1, getC hb h.2.2.1, getC hb h.2.2.2.1, getC hb h.2.2.2.2.1, Bl.next h.2.2.2.2.2 hb⟩
theorem lastB_own (l : List Int) (c : Int) : lastB (blocksOf (ownL l c)) = if c = 0 then -1 else lastB l := by
  rw [blocksOf_own]; split <;> rfl

theorem dmg_eq (kind q c : Int) (V : World) : (binOp .eql 53 (.agg #[.int .i64 kind, .int .i64 q, .int .i64 c]) (.agg #[.int .i64 kind, .int .i64 q, .int .i64 c])).run Tryd.prog V = .ok (.bool true) V := by
  have h1 := Tryd.underlying53
  have h2 := Tryd.underlying3
  have h3 := Tryd.underlying41
  have h4 : Tryd.prog.stoodInHeld 53 = false := by kernel_rfl
  simp [go_sem, Program.fieldsOf, h1, h2, h3, h4, Op.eqFields]
set_option maxRecDepth 100000 in
set_option maxHeartbeats 4000000 in
theorem auditOf_law (hlv : ∀ V, ErrT V → Calls Tryd.prog 25 #[] V (Ret (.bool true) V)) (kind : Int) (l : List Int) (c : Int) (v : Value) (w : World) (hg : ErrT w) (hv : FltV w v l c) :
    Calls Tryd.prog 7 #[.int .i64 kind, v] w (Ret (.bool true) w) := by
  obtain ⟨s, rfl, k⟩ := hv
  obtain ⟨a, p, rfl⟩ := k.slice
  have hB := Bl.box w (.cells #[.slice a l.length p, .int .i64 c] 24)
  have k0 := Blk.new w [.slice a l.length p, .int .i64 c] 24
  by_cases hl : l.length ≤ 200
  case neg =>
    have hl' : (200 : Int) < (l.length : Int) := by omega
    have hli := hlv _ (hg.below hB)
    go_enter Tryd.func7, Tryd.ntmps7
    go_wp2_with fail
    refine hli.mono ?_
    rintro e w' ⟨rfl, hb⟩
    go_wp2_with fail
    go_ret
    exact ⟨rfl, Bl.next hB hb⟩
  have hl' : ¬ ((200 : Int) < (l.length : Int)) := by omega
  have hf : FltV (w.alloc (.cells #[.slice a l.length p, .int .i64 c] 24)) (.agg #[.slice a l.length p, .int .i64 c]) l c := ⟨_, rfl, k.below hB⟩
  have hr := ref28_Of kind l c _ _ hf
  unfold dmgV at hr
  generalize hq : lastB l = q at hr
  go_enter Tryd.func7, Tryd.ntmps7
  go_wp2_with fail
  refine hr.mono ?_
  rintro e w1 ⟨rfl, hb1⟩
  clear hr
  have k1 := k0.below hb1
  have f1 := hf.below hb1
  have hB1 := Bl.next hB hb1
  have g1 := hg.below hB1
  clear hb1 hf hB k0 k hg
  have c0 := k1.cell (i := 0) rfl
  have c1 := k1.cell (i := 1) rfl
  have kz := k1.lt
  by_cases hc : c = 0
  · subst hc
    clear hq
    have dB := Blk.new w1 [.int .i64 kind, .int .i64 q, .int .i64 0] 53
    go_wp2_with fail
    refine (ref28_Of kind [] 0 (.agg #[.slice none 0 0, .int .i64 0]) _ ⟨_, rfl, .inl ⟨_, _, rfl, rfl, rfl⟩⟩).mono ?_
    rintro e w2 ⟨rfl, hb2⟩
    rw [show lastB [] = -1 from rfl]
    unfold dmgV
    have dC := dB.below hb2
    have hbx := Bl.next (Bl.box w1 (.cells #[.int .i64 kind, .int .i64 q, .int .i64 0] 53)) hb2
    have k2 := k1.below hbx
    have f3 := f1.below hbx
    have g3 := g1.below hbx
    have hB3 := Bl.next hB1 hbx
    have m0 := dC.cell (i := 0) rfl
    have m1 := dC.cell (i := 1) rfl
    have m2 := dC.cell (i := 2) rfl
    have n0 := dC.frozen 0
    have n1 := dC.frozen 1
    have n2 := dC.frozen 2
    have kz1 : w.heap.size ≠ w1.heap.size := by omega
    have hset : Below w1.heap.size w1 (((w2.setCell ⟨w1.heap.size, 0, none⟩ (.int .i64 kind)).setCell ⟨w1.heap.size, 1, none⟩ (.int .i64 (-1))).setCell ⟨w1.heap.size, 2, none⟩ (.int .i64 0)) := ((hbx.setCell (Nat.le_refl _) _).setCell (Nat.le_refl _) _).setCell (Nat.le_refl _) _
    have kB := k1.below hset
    have dB2 := ((dC.set 0 (.int .i64 kind)).set 1 (.int .i64 (-1))).set 2 (.int .i64 0)
    have hB2 := Bl.next hB1 hset
    have f2 := f1.below hset
    have g2 := g1.below hset
    clear dB hb2 hbx hset f3 g3 hB3 k2 f1 g1 c0 c1 dC
    go_wp2_with fail
    obtain ⟨W, hW⟩ : ∃ W, ((w2.setCell ⟨w1.heap.size, 0, none⟩ (.int .i64 kind)).setCell ⟨w1.heap.size, 1, none⟩ (.int .i64 (-1))).setCell ⟨w1.heap.size, 2, none⟩ (.int .i64 0) = W := ⟨_, rfl⟩
    rw [hW] at kB dB2 hB2 f2 g2 ⊢
    clear hW m0 m1 m2 n0 n1 n2
    have dB := dB2
    simp only [List.set_cons_zero, List.set_cons_succ] at dB
    have hOwn := fun (V : World) (hV : Below W.heap.size W V) => law05_Own l 0 _ V (by omega) (f2.below hV)
    have hOf : ∀ V r, Below W.heap.size W V → ErrV V (ownL l 0) (ownT 0) r → Calls Tryd.prog 27 #[.int .i64 kind, r] V (Ret (.agg #[.int .i64 kind, .int .i64 (-1), .int .i64 0]) V) := by
      intro V r hV hr
      have := audit_Of kind (ownT 0) (ownL l 0) r V (by unfold ownL; split <;> simp; omega) (g2.below hV) hr
      rwa [codeOf_own] at this
    have hL := fun (V : World) (hV : Below W.heap.size W V) => hlv V (g2.below hV)
    have e0 := kB.cell (i := 0) rfl
    have e1 := kB.cell (i := 1) rfl
    have e2 := dB.cell (i := 0) rfl
    have e3 := dB.cell (i := 1) rfl
    have e4 := dB.cell (i := 2) rfl
    have heq := fun V => dmg_eq kind (-1) 0 V
    clear f2 g2
    go_region_held3 (fun V => V.cell? ⟨w.heap.size, 0, none⟩ = some (.slice a l.length p) ∧ V.cell? ⟨w.heap.size, 1, none⟩ = some (.int .i64 0) ∧ V.cell? ⟨w1.heap.size, 0, none⟩ = some (.int .i64 kind) ∧ V.cell? ⟨w1.heap.size, 1, none⟩ = some (.int .i64 (-1)) ∧ V.cell? ⟨w1.heap.size, 2, none⟩ = some (.int .i64 0) ∧ Below W.heap.size W V)
      (first | exact ⟨e0, e1, e2, e3, e4, (Below.refl _ _).drew⟩ | exact held3e hb5 (by assumption))
      (first | (go_at_call 13; refine (hOwn _ (And.right (And.right (And.right (And.right (And.right (by assumption))))))).mono ?_; rintro e w5 ⟨r, rfl, hb5, hr5⟩) | (go_at_call 27; refine (hOf _ _ (And.right (And.right (And.right (And.right (And.right (by assumption)))))) (by assumption)).mono ?_; rintro e w5 ⟨rfl, hb5⟩) | (go_at_call 25; refine (hL _ (And.right (And.right (And.right (And.right (And.right (by assumption))))))).mono ?_; rintro e w5 ⟨rfl, hb5⟩))
    rename_i hh
    go_wp2_with fail
    go_ret
    exact ⟨rfl, Bl.next hB2 hh.2.2.2.2.2⟩
  · have hc' : (c == 0) = false := by simpa using hc
    have HC := Lib.hid hc
    have HQ := Lib.hid hq
    have hLB : lastB (blocksOf (ownL l c)) = q := by rw [lastB_own, if_neg hc, hq]
    clear hc hq
    go_wp2_with fail
    have kB := k1.alloc (.cells #[.int .i64 kind, .int .i64 q, .int .i64 c] 53)
    have dB := Blk.new w1 [.int .i64 kind, .int .i64 q, .int .i64 c] 53
    have hB2 := Bl.next hB1 (Bl.box w1 (.cells #[.int .i64 kind, .int .i64 q, .int .i64 c] 53))
    have f2 := f1.below (Bl.box w1 (.cells #[.int .i64 kind, .int .i64 q, .int .i64 c] 53))
    have g2 := g1.below (Bl.box w1 (.cells #[.int .i64 kind, .int .i64 q, .int .i64 c] 53))
    obtain ⟨W, hW⟩ : ∃ W, w1.alloc (.cells #[.int .i64 kind, .int .i64 q, .int .i64 c] 53) = W := ⟨_, rfl⟩
    change Blk (w1.alloc (.cells #[.int .i64 kind, .int .i64 q, .int .i64 c] 53)) _ _ _ at dB
    rw [hW] at kB dB hB2 f2 g2 ⊢
    clear hW f1 g1 c0 c1
    have hOwn := fun (V : World) (hV : Below W.heap.size W V) => law05_Own l c _ V (by omega) (f2.below hV)
    have hOf : ∀ V r, Below W.heap.size W V → ErrV V (ownL l c) (ownT c) r → Calls Tryd.prog 27 #[.int .i64 kind, r] V (Ret (.agg #[.int .i64 kind, .int .i64 q, .int .i64 c]) V) := by
      intro V r hV hr
      have := audit_Of kind (ownT c) (ownL l c) r V (by unfold ownL; split <;> simp; omega) (g2.below hV) hr
      rwa [hLB, codeOf_own] at this
    have hL := fun (V : World) (hV : Below W.heap.size W V) => hlv V (g2.below hV)
    have e0 := kB.cell (i := 0) rfl
    have e1 := kB.cell (i := 1) rfl
    have e2 := dB.cell (i := 0) rfl
    have e3 := dB.cell (i := 1) rfl
    have e4 := dB.cell (i := 2) rfl
    have heq := fun V => dmg_eq kind q c V
    clear f2 g2 hLB
    go_region_held3 (fun V => V.cell? ⟨w.heap.size, 0, none⟩ = some (.slice a l.length p) ∧ V.cell? ⟨w.heap.size, 1, none⟩ = some (.int .i64 c) ∧ V.cell? ⟨w1.heap.size, 0, none⟩ = some (.int .i64 kind) ∧ V.cell? ⟨w1.heap.size, 1, none⟩ = some (.int .i64 q) ∧ V.cell? ⟨w1.heap.size, 2, none⟩ = some (.int .i64 c) ∧ Below W.heap.size W V)
      (first | exact ⟨e0, e1, e2, e3, e4, (Below.refl _ _).drew⟩ | exact held3e hb5 (by assumption))
      (first | (go_at_call 13; refine (hOwn _ (And.right (And.right (And.right (And.right (And.right (by assumption))))))).mono ?_; rintro e w5 ⟨r, rfl, hb5, hr5⟩) | (go_at_call 27; refine (hOf _ _ (And.right (And.right (And.right (And.right (And.right (by assumption)))))) (by assumption)).mono ?_; rintro e w5 ⟨rfl, hb5⟩) | (go_at_call 25; refine (hL _ (And.right (And.right (And.right (And.right (And.right (by assumption))))))).mono ?_; rintro e w5 ⟨rfl, hb5⟩))
    rename_i hh
    go_wp2_with fail
    go_ret
    exact ⟨rfl, Bl.next hB2 hh.2.2.2.2.2⟩
end Go.Proofs.YthjemliaeklecaaDoor
