/- scantlingref28.Same: two slices of damages are compared one by one. -/
import Derived.Test.YthjemliaeklecaaDoorAudit
import Derived.Test.YthjemliaeklecaaDoorGwErr
import Derived.Test.YthjemliaeklecaaDoorAuditLaw
namespace Go.Proofs.YthjemliaeklecaaDoor
open Go.RowKit Go.Extern.Stop Go.Stop Go.Extern
set_option linter.unusedVariables false

def dmc (d : Int × Int × Int) : List Value := [.int .i64 d.1, .int .i64 d.2.1, .int .i64 d.2.2]
theorem dmc_len (d : Int × Int × Int) : (dmc d).length = 3 := rfl
theorem run_dneq {a : Act} {o : Oper} {p q : Operand} (x y : Int × Int × Int) (ho : o.op = .binOp .neq 53 p q 53) (hx : a.eval p = .agg (dmc x).toArray) (hy : a.eval q = .agg (dmc y).toArray) (V : World) :
    (execOp a.eval o).run Tryd.prog V = .ok (.value (.bool (decide (x ≠ y)))) V := by
  have h1 := Tryd.underlying53
  have h2 := Tryd.underlying3
  have h3 := Tryd.underlying41
  have h4 : Tryd.prog.stoodInHeld 53 = false := by kernel_rfl
  have hb : (binOp .neq 53 (.agg (dmc x).toArray) (.agg (dmc y).toArray)).run Tryd.prog V = .ok (.bool (decide (x ≠ y))) V := by
    obtain ⟨x0, x1, x2⟩ := x
    obtain ⟨y0, y1, y2⟩ := y
    by_cases e0 : x0 = y0
    · subst e0
      by_cases e1 : x1 = y1
      · subst e1
        by_cases e2 : x2 = y2
        · subst e2; simp [dmc, go_sem, Program.fieldsOf, h1, h2, h3, h4, Op.eqFields]
        · simp [dmc, go_sem, Program.fieldsOf, h1, h2, h3, h4, Op.eqFields, e2]
      · simp [dmc, go_sem, Program.fieldsOf, h1, h2, h3, h4, Op.eqFields, e1]
    · simp [dmc, go_sem, Program.fieldsOf, h1, h2, h3, h4, Op.eqFields, e0]
  have hg := run_eqGuard_agg (P := Tryd.prog) (w := V) .neq 53 p q (dmc x).toArray (dmc y).toArray (by kernel_rfl)
  simp only [execOp, ho, hx, hy, Sem.run_bind, hg, Result.andThen_ok, hb]
  rfl
theorem take_next {α : Type} {la lb : List α} (d : α) {k : Nat} (h : la.take k = lb.take k) (hk : k < la.length) (hk2 : k < lb.length) (he : la.getD k d = lb.getD k d) : la.take (k + 1) = lb.take (k + 1) := by
  rw [List.take_succ_eq_append_getElem hk, List.take_succ_eq_append_getElem hk2, h]
  have e : la[k] = lb[k] := by simpa [List.getD, List.getElem?_eq_getElem hk, List.getElem?_eq_getElem hk2] using he
  rw [e]
set_option maxRecDepth 100000 in
set_option maxHeartbeats 1000000 in
theorem ref28_Same (a b : Option Addr) (ca cb : Nat) (la lb : List (Int × Int × Int)) (w : World) (ha : Sts dmc w (.slice a la.length ca) la) (hb : Sts dmc w (.slice b lb.length cb) lb) :
    Calls Tryd.prog 28 #[.slice a la.length ca, .slice b lb.length cb] w (Ret (.bool (decide (la = lb))) w) := by
  have hLa := Sl.len ha
  refine calls_of_wp Tryd.func28 rfl ?_
  refine g_fr ⟨#[.slice a la.length ca, .slice b lb.length cb, undef, undef, undef, undef, undef, undef, undef, undef, undef, undef, undef, undef, undef, undef, undef, undef, undef, undef, undef, undef, undef, undef, undef, undef], []⟩ (by kernel_rfl) ?_
  refine wp_seq ?_
  refine wp_region_lit ?_
  refine g_pure 1 ⟨#[.slice a la.length ca, .slice b lb.length cb, undef, undef, .bool false, undef, undef, undef, undef, undef, undef, undef, undef, undef, undef, undef, undef, undef, undef, undef, undef, undef, undef, undef, undef, undef], []⟩ (by kernel_rfl) ?_
  refine wpList_nil ?_
  refine wp_seq ?_
  refine wp_seq ?_
  refine wp_region_lit ?_
  refine g_pure 5 ⟨#[.slice a la.length ca, .slice b lb.length cb, undef, undef, .bool false, undef, .slice a la.length ca, .int .i64 (↑la.length : Int), .slice b lb.length cb, .int .i64 (↑lb.length : Int), .bool ((↑la.length : Int) != (↑lb.length : Int)), undef, undef, undef, undef, undef, undef, undef, undef, undef, undef, undef, undef, undef, undef, undef], []⟩ (by kernel_rfl) ?_
  refine wpList_nil ?_
  refine wp_cond_split (t := ((↑la.length : Int) != (↑lb.length : Int))) rfl (fun hc1 => ?_) (fun hc1 => ?_)
  · have hc1 := ne_of_bne hc1
    refine wp_seq ?_
    refine wp_region_lit ?_
    refine g_pure 1 ⟨#[.slice a la.length ca, .slice b lb.length cb, undef, undef, .bool false, undef, .slice a la.length ca, .int .i64 (↑la.length : Int), .slice b lb.length cb, .int .i64 (↑lb.length : Int), .bool ((↑la.length : Int) != (↑lb.length : Int)), undef, undef, undef, undef, undef, undef, undef, undef, undef, undef, undef, undef, undef, undef, undef], []⟩ (by kernel_rfl) ?_
    refine wpList_nil ?_
    refine wp_ret ?_
    show bodyPost _ _ _ .ret _ _
    exact g_ret (.bool false) rfl (by kernel_rfl) ⟨by rw [show decide (la = lb) = false by simp; rintro rfl; simp at *], (Below.refl _ _)⟩
  · have hc1 := eq_of_bne_false hc1
    refine wp_skip ?_
    refine wp_seq ?_
    refine wp_seq ?_
    refine wp_region_lit ?_
    refine g_pure 1 ⟨#[.slice a la.length ca, .slice b lb.length cb, undef, undef, .bool false, .int .i64 0, .slice a la.length ca, .int .i64 (↑la.length : Int), .slice b lb.length cb, .int .i64 (↑lb.length : Int), .bool ((↑la.length : Int) != (↑lb.length : Int)), undef, undef, undef, undef, undef, undef, undef, undef, undef, undef, undef, undef, undef, undef, undef], []⟩ (by kernel_rfl) ?_
    refine wpList_nil ?_
    refine wp_block ?_
    refine g_fr ⟨#[.slice a la.length ca, .slice b lb.length cb, undef, undef, .bool false, .int .i64 0, .slice a la.length ca, .int .i64 (↑la.length : Int), .slice b lb.length cb, .int .i64 (↑lb.length : Int), .bool ((↑la.length : Int) != (↑lb.length : Int)), undef, undef, undef, undef, undef, undef, undef, undef, undef, undef, undef, undef, undef, undef, undef], []⟩ (by kernel_rfl) ?_
    have hB := Below.refl w.heap.size w
    refine wp_loop (fun act V => ∃ (k : Nat) (x2_4 x2_11 x2_12 x2_13 x2_14 x2_15 x2_16 x2_17 x2_18 x2_19 x2_20 x2_21 x2_22 x2_23 x2_24 x2_25 : Value), act = ⟨#[.slice a la.length ca, .slice b lb.length cb, undef, undef, x2_4, .int .i64 (↑k : Int), .slice a la.length ca, .int .i64 (↑la.length : Int), .slice b lb.length cb, .int .i64 (↑lb.length : Int), .bool ((↑la.length : Int) != (↑lb.length : Int)), x2_11, x2_12, x2_13, x2_14, x2_15, x2_16, x2_17, x2_18, x2_19, x2_20, x2_21, x2_22, x2_23, x2_24, x2_25], []⟩ ∧ Below w.heap.size w V ∧ k ≤ la.length ∧ la.length = lb.length ∧ la.take k = lb.take k) (fun act V => la.length - ((intOf (act.tmps.getD 5 undef))).toNat) ⟨0, _, _, _, _, _, _, _, _, _, _, _, _, _, _, _, _, rfl, hB, Nat.zero_le _, by omega, rfl⟩ ?_
    rintro _ W2 ⟨k, x2_4, x2_11, x2_12, x2_13, x2_14, x2_15, x2_16, x2_17, x2_18, x2_19, x2_20, x2_21, x2_22, x2_23, x2_24, x2_25, rfl, hB, hk, hl, ht⟩
    refine wp_seq ?_
    refine wp_seq ?_
    refine wp_region_lit ?_
    refine g_pure 4 ⟨#[.slice a la.length ca, .slice b lb.length cb, undef, undef, x2_4, .int .i64 (↑k : Int), .slice a la.length ca, .int .i64 (↑la.length : Int), .slice b lb.length cb, .int .i64 (↑lb.length : Int), .bool ((↑la.length : Int) != (↑lb.length : Int)), .int .i64 (↑k : Int), .slice a la.length ca, .int .i64 (↑la.length : Int), .bool (decide ((↑k : Int) < (↑la.length : Int))), x2_15, x2_16, x2_17, x2_18, x2_19, x2_20, x2_21, x2_22, x2_23, x2_24, x2_25], []⟩ (by kernel_rfl) ?_
    refine wpList_nil ?_
    refine wp_cond_split (t := decide ((↑k : Int) < (↑la.length : Int))) rfl (fun hc3 => ?_) (fun hc3 => ?_)
    · have hc3 := of_decide_eq_true hc3
      refine wp_skip ?_
      refine wp_seq ?_
      refine wp_block ?_
      refine wp_seq ?_
      replace hB := Bl.next hB (below_drew W2)
      refine h_reg (Below (W2.drew).heap.size (W2.drew)) 9 rfl #[false, false, false, false, false, false, false, false, false] rfl (by kernel_rfl) (Below.refl _ _) ?_
      intro hS4
      have hBd6 := hB
      refine h_pure [0, 1] 7 rfl #[true, true, false, false, false, false, false, false, false] ⟨#[.slice a la.length ca, .slice b lb.length cb, undef, undef, x2_4, .int .i64 (↑k : Int), .slice a la.length ca, .int .i64 (↑la.length : Int), .slice b lb.length cb, .int .i64 (↑lb.length : Int), .bool ((↑la.length : Int) != (↑lb.length : Int)), .int .i64 (↑k : Int), .slice a la.length ca, .int .i64 (↑la.length : Int), .bool (decide ((↑k : Int) < (↑la.length : Int))), x2_15, x2_16, .slice a la.length ca, .int .i64 (↑k : Int), x2_19, x2_20, x2_21, x2_22, x2_23, x2_24, x2_25], []⟩ (by kernel_rfl) (fun _ _ _ _ _ h => h) (by kernel_rfl) hS4 ?_
      refine h_val 2 6 rfl (.pointer (some (elemAddr a (k * 3)))) rfl (by kernel_rfl) (by kernel_rfl) (by kernel_rfl) (fun _ _ _ _ _ h => h) (by kernel_rfl) (fun V _ => run_indexA (k := k) rfl rfl rfl rfl (by omega) (Sts.cell ha dmc_len (0, 0, 0) (k := k) (i := 0) (by omega) rfl).1 Tryd.underlying58 (by kernel_rfl) V) hS4 ?_
      refine h_val 3 5 rfl (.agg #[.int .i64 ((la.getD k (0, 0, 0)).1), .int .i64 ((la.getD k (0, 0, 0)).2.1), .int .i64 ((la.getD k (0, 0, 0)).2.2)]) rfl (by kernel_rfl) (by kernel_rfl) (by kernel_rfl) (fun _ _ _ _ _ h => h) (by kernel_rfl) (fun V hV => run_loadSt (k := k) dmc_len (0, 0, 0) _ rfl rfl ((ha.below hBd6).below hV) (by omega) (by decide) Tryd.underlying53 rfl (by kernel_rfl)) hS4 ?_
      refine h_pure [4, 5] 3 rfl #[true, true, true, true, true, true, false, false, false] ⟨#[.slice a la.length ca, .slice b lb.length cb, undef, undef, x2_4, .int .i64 (↑k : Int), .slice a la.length ca, .int .i64 (↑la.length : Int), .slice b lb.length cb, .int .i64 (↑lb.length : Int), .bool ((↑la.length : Int) != (↑lb.length : Int)), .int .i64 (↑k : Int), .slice a la.length ca, .int .i64 (↑la.length : Int), .bool (decide ((↑k : Int) < (↑la.length : Int))), x2_15, x2_16, .slice a la.length ca, .int .i64 (↑k : Int), .pointer (some (elemAddr a (k * 3))), .agg #[.int .i64 ((la.getD k (0, 0, 0)).1), .int .i64 ((la.getD k (0, 0, 0)).2.1), .int .i64 ((la.getD k (0, 0, 0)).2.2)], .slice b lb.length cb, .int .i64 (↑k : Int), x2_23, x2_24, x2_25], []⟩ (by kernel_rfl) (fun _ _ _ _ _ h => h) (by kernel_rfl) hS4 ?_
      refine h_val 6 2 rfl (.pointer (some (elemAddr b (k * 3)))) rfl (by kernel_rfl) (by kernel_rfl) (by kernel_rfl) (fun _ _ _ _ _ h => h) (by kernel_rfl) (fun V _ => run_indexA (k := k) rfl rfl rfl rfl (by omega) (Sts.cell hb dmc_len (0, 0, 0) (k := k) (i := 0) (by omega) rfl).1 Tryd.underlying58 (by kernel_rfl) V) hS4 ?_
      refine h_val 7 1 rfl (.agg #[.int .i64 ((lb.getD k (0, 0, 0)).1), .int .i64 ((lb.getD k (0, 0, 0)).2.1), .int .i64 ((lb.getD k (0, 0, 0)).2.2)]) rfl (by kernel_rfl) (by kernel_rfl) (by kernel_rfl) (fun _ _ _ _ _ h => h) (by kernel_rfl) (fun V hV => run_loadSt (k := k) dmc_len (0, 0, 0) _ rfl rfl ((hb.below hBd6).below hV) (by omega) (by decide) Tryd.underlying53 rfl (by kernel_rfl)) hS4 ?_
      refine h_val 8 0 rfl (.bool (decide ((la.getD k (0, 0, 0)) ≠ (lb.getD k (0, 0, 0))))) rfl (by kernel_rfl) (by kernel_rfl) (by kernel_rfl) (fun _ _ _ _ _ h => h) (by kernel_rfl) (fun V _ => run_dneq (la.getD k (0, 0, 0)) (lb.getD k (0, 0, 0)) rfl rfl rfl V) hS4 ?_
      refine h_done _ (by kernel_rfl) ?_
      refine wp_cond_split (t := decide ((la.getD k (0, 0, 0)) ≠ (lb.getD k (0, 0, 0)))) rfl (fun hc7 => ?_) (fun hc7 => ?_)
      · have hc7 := of_decide_eq_true hc7
        refine wp_seq ?_
        refine wp_region_lit ?_
        refine g_pure 1 ⟨#[.slice a la.length ca, .slice b lb.length cb, undef, undef, .bool false, .int .i64 (↑k : Int), .slice a la.length ca, .int .i64 (↑la.length : Int), .slice b lb.length cb, .int .i64 (↑lb.length : Int), .bool ((↑la.length : Int) != (↑lb.length : Int)), .int .i64 (↑k : Int), .slice a la.length ca, .int .i64 (↑la.length : Int), .bool (decide ((↑k : Int) < (↑la.length : Int))), x2_15, x2_16, .slice a la.length ca, .int .i64 (↑k : Int), .pointer (some (elemAddr a (k * 3))), .agg #[.int .i64 ((la.getD k (0, 0, 0)).1), .int .i64 ((la.getD k (0, 0, 0)).2.1), .int .i64 ((la.getD k (0, 0, 0)).2.2)], .slice b lb.length cb, .int .i64 (↑k : Int), .pointer (some (elemAddr b (k * 3))), .agg #[.int .i64 ((lb.getD k (0, 0, 0)).1), .int .i64 ((lb.getD k (0, 0, 0)).2.1), .int .i64 ((lb.getD k (0, 0, 0)).2.2)], .bool (decide ((la.getD k (0, 0, 0)) ≠ (lb.getD k (0, 0, 0))))], []⟩ (by kernel_rfl) ?_
        refine wpList_nil ?_
        refine wp_ret ?_
        show bodyPost _ _ _ .ret _ _
        exact g_ret (.bool false) rfl (by kernel_rfl) ⟨by rw [show decide (la = lb) = false by simp; rintro rfl; simp at *], hB⟩
      · have hc7 := of_decide_eq_false hc7
        refine wp_skip ?_
        refine wp_region_lit ?_
        refine g_pure 1 ⟨#[.slice a la.length ca, .slice b lb.length cb, undef, undef, x2_4, .int .i64 (↑k : Int), .slice a la.length ca, .int .i64 (↑la.length : Int), .slice b lb.length cb, .int .i64 (↑lb.length : Int), .bool ((↑la.length : Int) != (↑lb.length : Int)), .int .i64 (↑k : Int), .slice a la.length ca, .int .i64 (↑la.length : Int), .bool (decide ((↑k : Int) < (↑la.length : Int))), .int .i64 (↑k : Int), x2_16, .slice a la.length ca, .int .i64 (↑k : Int), .pointer (some (elemAddr a (k * 3))), .agg #[.int .i64 ((la.getD k (0, 0, 0)).1), .int .i64 ((la.getD k (0, 0, 0)).2.1), .int .i64 ((la.getD k (0, 0, 0)).2.2)], .slice b lb.length cb, .int .i64 (↑k : Int), .pointer (some (elemAddr b (k * 3))), .agg #[.int .i64 ((lb.getD k (0, 0, 0)).1), .int .i64 ((lb.getD k (0, 0, 0)).2.1), .int .i64 ((lb.getD k (0, 0, 0)).2.2)], .bool (decide ((la.getD k (0, 0, 0)) ≠ (lb.getD k (0, 0, 0))))], []⟩ (by kernel_rfl) ?_
        refine g_op (by kernel_rfl) (op_val (run_wrap .i64 ((↑k : Int) + 1) ((↑k : Int) + 1) (by kernel_rfl) (by first | exact IntWalk.i64_in _ (by omega) | (simp only [IntKind.wrap]; omega)) _) ?_)
        refine g_pure 1 ⟨#[.slice a la.length ca, .slice b lb.length cb, undef, undef, x2_4, .int .i64 ((↑k : Int) + 1), .slice a la.length ca, .int .i64 (↑la.length : Int), .slice b lb.length cb, .int .i64 (↑lb.length : Int), .bool ((↑la.length : Int) != (↑lb.length : Int)), .int .i64 (↑k : Int), .slice a la.length ca, .int .i64 (↑la.length : Int), .bool (decide ((↑k : Int) < (↑la.length : Int))), .int .i64 (↑k : Int), .int .i64 ((↑k : Int) + 1), .slice a la.length ca, .int .i64 (↑k : Int), .pointer (some (elemAddr a (k * 3))), .agg #[.int .i64 ((la.getD k (0, 0, 0)).1), .int .i64 ((la.getD k (0, 0, 0)).2.1), .int .i64 ((la.getD k (0, 0, 0)).2.2)], .slice b lb.length cb, .int .i64 (↑k : Int), .pointer (some (elemAddr b (k * 3))), .agg #[.int .i64 ((lb.getD k (0, 0, 0)).1), .int .i64 ((lb.getD k (0, 0, 0)).2.1), .int .i64 ((lb.getD k (0, 0, 0)).2.2)], .bool (decide ((la.getD k (0, 0, 0)) ≠ (lb.getD k (0, 0, 0))))], []⟩ (by kernel_rfl) ?_
        refine wpList_nil ?_
        refine g_nfr ⟨#[.slice a la.length ca, .slice b lb.length cb, undef, undef, x2_4, .int .i64 ((↑k : Int) + 1), .slice a la.length ca, .int .i64 (↑la.length : Int), .slice b lb.length cb, .int .i64 (↑lb.length : Int), .bool ((↑la.length : Int) != (↑lb.length : Int)), .int .i64 (↑k : Int), .slice a la.length ca, .int .i64 (↑la.length : Int), .bool (decide ((↑k : Int) < (↑la.length : Int))), .int .i64 (↑k : Int), .int .i64 ((↑k : Int) + 1), .slice a la.length ca, .int .i64 (↑k : Int), .pointer (some (elemAddr a (k * 3))), .agg #[.int .i64 ((la.getD k (0, 0, 0)).1), .int .i64 ((la.getD k (0, 0, 0)).2.1), .int .i64 ((la.getD k (0, 0, 0)).2.2)], .slice b lb.length cb, .int .i64 (↑k : Int), .pointer (some (elemAddr b (k * 3))), .agg #[.int .i64 ((lb.getD k (0, 0, 0)).1), .int .i64 ((lb.getD k (0, 0, 0)).2.1), .int .i64 ((lb.getD k (0, 0, 0)).2.2)], .bool (decide ((la.getD k (0, 0, 0)) ≠ (lb.getD k (0, 0, 0))))], []⟩ (by kernel_rfl) ?_
        refine ⟨⟨k + 1, _, _, _, _, _, _, _, _, _, _, _, _, _, _, _, _, rfl, hB, by omega, hl, take_next (0, 0, 0) ht (by omega) (by omega) (Decidable.not_not.1 (by assumption))⟩, ?_⟩
        show la.length - (((↑k : Int) + 1)).toNat < la.length - ((↑k : Int)).toNat
        omega
    · have hc3 := of_decide_eq_false hc3
      refine wp_exit ?_
      refine then_exit ?_
      refine then_exit ?_
      refine inBlock_hit ?_
      refine wp_seq ?_
      refine wp_region_lit ?_
      refine g_pure 1 ⟨#[.slice a la.length ca, .slice b lb.length cb, undef, undef, .bool true, .int .i64 (↑k : Int), .slice a la.length ca, .int .i64 (↑la.length : Int), .slice b lb.length cb, .int .i64 (↑lb.length : Int), .bool ((↑la.length : Int) != (↑lb.length : Int)), .int .i64 (↑k : Int), .slice a la.length ca, .int .i64 (↑la.length : Int), .bool (decide ((↑k : Int) < (↑la.length : Int))), x2_15, x2_16, x2_17, x2_18, x2_19, x2_20, x2_21, x2_22, x2_23, x2_24, x2_25], []⟩ (by kernel_rfl) ?_
      refine wpList_nil ?_
      refine wp_ret ?_
      show bodyPost _ _ _ .ret _ _
      exact g_ret (.bool true) rfl (by kernel_rfl) ⟨by rw [show decide (la = lb) = true by simp; rwa [List.take_of_length_le (by omega), List.take_of_length_le (by omega)] at ht], hB⟩
end Go.Proofs.YthjemliaeklecaaDoor
