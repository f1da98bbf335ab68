/- fault.First, and the law FaultFirst, walked. -/
import Derived.Test.YthjemliaeklecaaDoorErrWraps
import Derived.Test.YthjemliaeklecaaDoorFlts
namespace Go.Proofs.YthjemliaeklecaaDoor
open Go.RowKit Go.Extern.Stop Go.Stop Go.Extern
set_option linter.unusedVariables false

def isErrV (v : Value) : Prop := v = .nilIface ∨ ∃ ty x, v = .iface ty x
def isNilB : Value → Bool
  | .nilIface => true
  | _ => false
/-- the first error of a list -/
def firstV : List Value → Value
  | [] => .nilIface
  | v :: r => if isNilB v then firstV r else v

set_option maxRecDepth 100000 in
set_option maxHeartbeats 2000000 in
theorem fault_First (es : List Value) (v : Value) (w : World) (hlen : es.length ≤ 9223372036854775807) (hes : ∀ e ∈ es, isErrV e) (hv : Sl w v es.length es) :
    Calls Tryd.prog 17 #[v] w (Ret (firstV es) w) := by
  obtain ⟨a, c, rfl⟩ := hv.slice
  go_enter Tryd.func17, Tryd.ntmps17
  go_wp2_with fail
  go_loopw [7] (fun i wr => ∃ k : Nat, k ≤ es.length ∧ i = .int .i64 k ∧ firstV (es.drop k) = firstV es ∧ Below w.heap.size w wr) (fun i _ => es.length - (intOf i).toNat)
  case atStart => exact ⟨0, by omega, rfl, rfl, Below.refl _ _⟩
  case round =>
    obtain ⟨k, hk, rfl, hf, hbr⟩ := hrel
    have HF := Lib.hid hf; clear hf
    by_cases hlt : k < es.length
    · rcases Sl.at (hv.below hbr) with h0 | ⟨b, off, rfl, hcell⟩
      · subst h0; exact absurd hlt (by simp)
      have ck := hcell k es[k] (by simp [hlt])
      have i1 : (0 : Int) ≤ (k : Int) := by omega
      have i2 : (k : Int) < (es.length : Int) := by omega
      have HD := Lib.hid (List.drop_eq_getElem_cons hlt)
      clear hcell
      rcases hes es[k] (List.getElem_mem hlt) with h0 | ⟨ty, x, h0⟩
      · rw [h0] at ck
        have H0 := Lib.hid h0; clear h0
        go_wp2_with fail
        refine ⟨⟨k + 1, by omega, by go_num, ?_, hbr⟩, by simp [intOf]; omega⟩
        rw [← HF.out, HD.out, H0.out]; rfl
      · rw [h0] at ck
        have H0 := Lib.hid h0; clear h0
        go_wp2_with fail
        go_ret
        refine ⟨?_, hbr⟩
        rw [← HF.out, HD.out, H0.out]; rfl
    · go_wp2_with fail
      go_ret
      refine ⟨?_, hbr⟩
      rw [← HF.out, List.drop_eq_nil_of_le (by omega)]; rfl

theorem blk_ne {w : World} {b b' : Nat} {cs cs' : List Value} {t t' : TypeId} (h : Blk w b cs t) (h' : Blk w b' cs' t') (hne : t ≠ t') : b ≠ b' := by
  rintro rfl
  have e : some (Obj.cells cs.toArray t (0, 0)) = some (Obj.cells cs'.toArray t' (0, 0)) := (show w.heap[b]? = _ from h).symm.trans h'
  injection e with e
  injection e with _ ht
  exact hne ht
theorem own_ne {w : World} {base n size b : Nat} {e t : TypeId} {v : Value} {xs cs : List Value} (h : w.ownsRow base e size v n xs) (hb : Blk w b cs t) (hne : e ≠ t) : some b ≠ v.ownBlock := by
  rcases h.2 with ⟨rfl, _⟩ | ⟨g, cap, cur, rfl, _, hg, _⟩
  · simp [Value.ownBlock]
  · intro he
    have : b = g := by simpa [Value.ownBlock] using he
    subst this
    rw [show w.heap[b]? = _ from hb] at hg
    injection hg with hg
    injection hg with _ ht
    exact hne ht.symm
/-- the first error of a list, as the document has it -/
def wantR : List (List Int × Int) → List Int × Int
  | [] => ([], 0)
  | f :: r => if f.2 = 0 then wantR r else f
def wantS (a f : List Int × Int) : List Int × Int := if a.2 = 0 ∧ f.2 ≠ 0 then f else a
theorem want_stay (L : List (List Int × Int)) (a : List Int × Int) (h : a.2 ≠ 0) : L.foldl wantS a = a := by
  induction L with
  | nil => rfl
  | cons f r ih => rw [List.foldl_cons, show wantS a f = a from if_neg (fun x => h x.1)]; exact ih
theorem want_fold (L : List (List Int × Int)) : L.foldl wantS ([], 0) = wantR L := by
  induction L with
  | nil => rfl
  | cons f r ih =>
    rw [List.foldl_cons]
    by_cases h : f.2 = 0
    · rw [show wantS ([], 0) f = ([], 0) from if_neg (fun x => x.2 h), ih]; simp [wantR, h]
    · rw [show wantS ([], 0) f = f from if_pos ⟨rfl, h⟩, want_stay _ _ h]; simp [wantR, h]
theorem want_snoc {L : List (List Int × Int)} {k : Nat} (h : k < L.length) : (L.take (k + 1)).foldl wantS ([], 0) = wantS ((L.take k).foldl wantS ([], 0)) L[k] := by
  rw [List.take_succ_eq_append_getElem h, List.foldl_append]; rfl
theorem wantR_nil : ∀ (L : List (List Int × Int)), (wantR L).2 = 0 → (wantR L).1 = []
  | [], _ => rfl
  | f :: r, h => by
    by_cases h0 : f.2 = 0
    · simp only [wantR, h0, if_true] at h ⊢; exact wantR_nil r h
    · simp [wantR, h0] at h
theorem blocks_want (L : List (List Int × Int)) : blocksOf (ownL (wantR L).1 (wantR L).2) = (wantR L).1 := by
  rw [blocksOf_own]
  by_cases h : (wantR L).2 = 0
  · rw [if_pos h, wantR_nil L h]
  · rw [if_neg h]
theorem errs_snoc {w : World} {L : List (List Int × Int)} {k : Nat} {es : List Value} {r : Value} (hk : k < L.length) (hl : es.length = k) (h : ∀ i (h : i < L.length) e, es[i]? = some e → ErrV w (ownL L[i].1 L[i].2) (ownT L[i].2) e)
    (hr : ErrV w (ownL L[k].1 L[k].2) (ownT L[k].2) r) : ∀ i (h : i < L.length) e, (es ++ [r])[i]? = some e → ErrV w (ownL L[i].1 L[i].2) (ownT L[i].2) e := by
  intro i hi e he
  rcases Nat.lt_trichotomy i k with h1 | h1 | h1
  · rw [List.getElem?_append_left (by omega)] at he; exact h i hi e he
  · subst h1
    rw [List.getElem?_append_right (by omega), hl, Nat.sub_self] at he
    simp at he; first | (subst he; exact hr) | (exact he ▸ hr)
  · rw [List.getElem?_append_right (by omega), hl, List.getElem?_eq_none (by simp only [List.length_singleton]; omega)] at he; cases he
theorem first_err {w : World} : ∀ (L : List (List Int × Int)) (es : List Value), es.length = L.length → (∀ i (h : i < L.length) e, es[i]? = some e → ErrV w (ownL L[i].1 L[i].2) (ownT L[i].2) e) →
    ErrV w (ownL (wantR L).1 (wantR L).2) (ownT (wantR L).2) (firstV es)
  | [], es, hl, _ => by
    obtain rfl : es = [] := List.length_eq_zero_iff.1 hl
    rfl
  | f :: r, [], hl, _ => by simp at hl
  | f :: r, e :: es, hl, h => by
    have h0 := h 0 (by simp) e rfl
    simp only [List.getElem_cons_zero] at h0
    by_cases hc : f.2 = 0
    · rw [hc] at h0
      obtain rfl : e = .nilIface := h0
      simp only [wantR, hc, if_true, firstV, isNilB]
      exact first_err r es (by simpa using hl) (fun i hi e he => by have := h (i + 1) (by simpa using hi) e (by simpa using he); simpa using this)
    · simp only [wantR, hc, if_false]
      rcases h0.nil_or with ⟨hz, _⟩ | ⟨_, ty, x, rfl⟩
      · rw [ownL_nz hc, ownT_nz hc] at hz; simp [noErr] at hz
      · simpa [firstV, isNilB] using h0

set_option maxRecDepth 100000 in
set_option maxHeartbeats 8000000 in
theorem first_law (L : List (List Int × Int)) (v : Value) (w : World) (hg : ErrT w) (hv : Flts w v L) :
    Calls Tryd.prog 4 #[v] w (Ret (.bool true) w) := by
  obtain ⟨i0, hi0, hz0, hz1, hz2⟩ := info_parts (P := Tryd.prog) (e := 27) (z := .nilIface) (size := 1) (bytes := 16) (by kernel_rfl)
  obtain ⟨a, c, rfl, hmax, hcells⟩ := hv
  by_cases hl : L.length ≤ 50
  case neg =>
    have hl' : (50 : Int) < (L.length : Int) := by omega
    go_enter Tryd.func4, Tryd.ntmps4
    go_wp2_with fail
    refine (lives05 _ hg).mono ?_
    rintro e w' ⟨rfl, hb⟩
    go_wp2_with fail
    go_ret
    exact ⟨rfl, hb⟩
  have hl' : ¬ ((50 : Int) < (L.length : Int)) := by omega
  have HC := Lib.hid hcells; clear hcells
  have hB := Bl.box w (.cells #[.slice none 0 0, .int .i64 0] 24)
  have k0 := Blk.new w [.slice none 0 0, .int .i64 0] 24
  go_enter Tryd.func4, Tryd.ntmps4
  go_wp2_with fail
  obtain ⟨W, hW⟩ : ∃ W, w.alloc (.cells #[.slice none 0 0, .int .i64 0] 24) = W := ⟨_, rfl⟩
  have hWz : w.heap.size + 1 = W.heap.size := by rw [← hW]; simp
  change Blk (w.alloc (.cells #[.slice none 0 0, .int .i64 0] 24)) _ _ _ at k0
  rw [hW] at k0 hB ⊢
  clear hW
  have hWs : w.heap.size ≤ W.heap.size := by omega
  have hWl : w.heap.size < W.heap.size := by omega
  go_loopw [3, 5] (fun al i wr => ∃ (k : Nat) (es : List Value) (sv : Value) (wl : List Int) (wc : Int), k ≤ L.length ∧ i = .int .i64 k ∧ wr.ownsRow W.heap.size 27 1 al k es ∧ (∀ i (h : i < L.length) e, es[i]? = some e → ErrV wr (ownL L[i].1 L[i].2) (ownT L[i].2) e) ∧
      Blk wr w.heap.size [sv, .int .i64 wc] 24 ∧ (wl, wc) = (L.take k).foldl wantS ([], 0) ∧ Ints w sv wl ∧ wl.length ≤ 50 ∧ Below w.heap.size w wr ∧ W.heap.size ≤ wr.heap.size) (fun _ i _ => L.length - (intOf i).toNat)
  case atStart => exact ⟨0, [], _, [], 0, by omega, rfl, World.ownsRow_nil _ _ _ _, by simp, k0, rfl, .inl ⟨_, _, rfl, rfl, rfl⟩, by simp, hB, Nat.le_refl _⟩
  case round =>
    obtain ⟨k, es, sv, wl, wc, hk, rfl, hown, hes, hblk, hwant, hsv, hw50, hbr, hsz⟩ := hrel
    have HL := Lib.hid (show es.length = k by simpa using hown.1)
    have HE := Lib.hid hes; clear hes
    have HW := Lib.hid hwant; clear hwant
    have HS := Lib.hid hsv
    obtain ⟨sa, sp, rfl⟩ := hsv.slice
    clear hsv
    by_cases hlt : k < L.length
    · obtain ⟨b, off, s, rfl, p0, p1, hs⟩ := HC.out k hlt
      obtain ⟨a1, n1, rfl⟩ := hs.slice
      have r0 := getC hbr p0
      have r1 := getC hbr p1
      have i1 : (0 : Int) ≤ (k : Int) := by omega
      have i2 : (k : Int) < (L.length : Int) := by omega
      have hf : FltV wr (.agg #[.slice a1 L[k].1.length n1, .int .i64 L[k].2]) L[k].1 L[k].2 := ⟨_, rfl, hs.below hbr⟩
      by_cases h50 : L[k].1.length ≤ 50
      case neg =>
        have hl5 : (50 : Int) < (L[k].1.length : Int) := by omega
        have HO := Lib.hid hown; clear hown
        go_wp2_with fail
        refine (lives05 _ (hg.below hbr)).mono ?_
        rintro e w' ⟨rfl, hb⟩
        go_wp2_with fail
        go_ret
        exact ⟨rfl, Bl.next hbr hb⟩
      have hl5 : ¬ ((50 : Int) < (L[k].1.length : Int)) := by omega
      have HO := Lib.hid hown; clear hown
      go_wp2_with fail
      refine (law05_Own L[k].1 L[k].2 _ wr (by omega) hf).mono ?_
      rintro e w1 ⟨r, rfl, hb1, h1⟩
      have hown1 := own_below HO.out hb1
      have HE1 := Lib.hid (fun i h e he => (HE.out i h e he).below hb1)
      have q1 := hblk.below hb1
      have hB1 := Bl.next hbr hb1
      have hsz1 : W.heap.size ≤ w1.heap.size := Nat.le_trans hsz hb1.size
      have HS3 := Lib.hid (want_snoc hlt)
      clear HO HE hblk hf r0 r1 hb1
      by_cases hc : L[k].2 = 0
      · obtain rfl : r = .nilIface := by rw [hc] at h1; exact h1
        have hz : (L[k].2 == 0) = true := by simpa using hc
        have hz' : (L[k].2 != 0) = false := by simpa using hc
        have HW3 : Hid ((wl, wc) = (L.take (k + 1)).foldl wantS ([], 0)) := Lib.hid (by rw [HS3.out, ← HW.out]; exact (if_neg (fun x => x.2 hc)).symm)
        clear hc
        go_wp2_with (at_builtin; refine Stop.go ?_)
        unfold Stop
        refine app_own rfl _ _ 35 rfl W.heap.size 27 i0 .nilIface 1 16 Tryd.underlying35 hi0 hz0 hz1 hz2 rfl (by decide) u3 k _ rfl (hown1.alloc _) w1.heap.size 1 1 [.nilIface] 27 rfl
          (Blk.new w1 [.nilIface] 27) rfl (by simp [Value.oneCell']) (by unfold maxLen; omega) (by omega) (by simp; omega) ?_
        intro v2 w3 hown3 hgrow3 hb3
        have hB3 : Below w.heap.size w w3 := (Bl.next hB1 (Bl.box w1 _)).trans (hb3.mono hWs)
        have hk3 : ∀ blk cs, Blk w1 blk cs 51 → Blk w3 blk cs 51 := fun blk cs h => Blk.kept (Blk.alloc h (.cells #[.nilIface] 27)) hgrow3 (own_ne (hown1.alloc (.cells #[.nilIface] 27)) (Blk.alloc h (.cells #[.nilIface] 27)) (by decide))
        have q3 := Blk.below' (q1.alloc _) hb3 hWl
        have d0 := q3.cell (i := 0) rfl
        have d1 := q3.cell (i := 1) rfl
        have f0 := q3.frozen 0
        have f1 := q3.frozen 1
        have e0 := getC hB3 p0
        have e1 := getC hB3 p1
        have hsz3 : W.heap.size ≤ w3.heap.size := by have := hb3.size; simp at this; omega
        have HE3 : Hid (∀ i (h : i < L.length) e, (es ++ [.nilIface])[i]? = some e → ErrV w3 (ownL L[i].1 L[i].2) (ownT L[i].2) e) := Lib.hid (errs_snoc hlt HL.out (fun i h e he => (HE1.out i h e he).kept hk3) (h1.kept hk3))
        have HO3 := Lib.hid hown3
        clear hown3 hown1 hgrow3 hb3 h1 q1 hk3
        go_wp2_with fail
        all_goals exact ⟨⟨k + 1, _, _, wl, wc, by omega, by go_num, HO3.out, HE3.out, q3, HW3.out, HS.out, hw50, hB3, hsz3⟩, by simp [intOf]; omega⟩
      · rcases h1.nil_or with ⟨hz, _⟩ | ⟨_, ty, x, rfl⟩
        · rw [ownL_nz hc, ownT_nz hc] at hz; simp [noErr] at hz
        have hz : (L[k].2 == 0) = false := by simpa using hc
        have hz' : (L[k].2 != 0) = true := by simpa using hc
        have HN := Lib.hid hc; clear hc
        by_cases hw0 : wc = 0
        · subst hw0
          have HW3 : Hid ((L[k].1, L[k].2) = (L.take (k + 1)).foldl wantS ([], 0)) := Lib.hid (by rw [HS3.out, ← HW.out]; exact (if_pos ⟨rfl, HN.out⟩).symm)
          go_wp2_with (at_builtin; refine Stop.go ?_)
          unfold Stop
          refine app_own rfl _ _ 35 rfl W.heap.size 27 i0 .nilIface 1 16 Tryd.underlying35 hi0 hz0 hz1 hz2 rfl (by decide) u3 k _ rfl (hown1.alloc _) w1.heap.size 1 1 [.iface ty x] 27 rfl
            (Blk.new w1 [.iface ty x] 27) rfl (by simp [Value.oneCell']) (by unfold maxLen; omega) (by omega) (by simp; omega) ?_
          intro v2 w3 hown3 hgrow3 hb3
          have hB3 : Below w.heap.size w w3 := (Bl.next hB1 (Bl.box w1 _)).trans (hb3.mono hWs)
          have hk3 : ∀ blk cs, Blk w1 blk cs 51 → Blk w3 blk cs 51 := fun blk cs h => Blk.kept (Blk.alloc h (.cells #[.iface ty x] 27)) hgrow3 (own_ne (hown1.alloc (.cells #[.iface ty x] 27)) (Blk.alloc h (.cells #[.iface ty x] 27)) (by decide))
          have q3 := Blk.below' (q1.alloc _) hb3 hWl
          have d0 := q3.cell (i := 0) rfl
          have d1 := q3.cell (i := 1) rfl
          have f0 := q3.frozen 0
          have f1 := q3.frozen 1
          have e0 := getC hB3 p0
          have e1 := getC hB3 p1
          have hsz3 : W.heap.size ≤ w3.heap.size := by have := hb3.size; simp at this; omega
          have HE3 : Hid (∀ i (h : i < L.length) e, (es ++ [.iface ty x])[i]? = some e → ErrV w3 (ownL L[i].1 L[i].2) (ownT L[i].2) e) := Lib.hid (errs_snoc hlt HL.out (fun i h e he => (HE1.out i h e he).kept hk3) (h1.kept hk3))
          have HO3 := Lib.hid hown3
          clear hown3 hown1 hgrow3 hb3 h1 q1 hk3
          go_wp2_with fail
          have hk4 : ∀ blk cs, Blk w3 blk cs 51 → Blk ((w3.setCell ⟨w.heap.size, 0, none⟩ (.slice a1 L[k].1.length n1)).setCell ⟨w.heap.size, 1, none⟩ (.int .i64 L[k].2)) blk cs 51 :=
            fun blk cs h => (h.other (by exact blk_ne h q3 (by decide)) _).other (by exact blk_ne h q3 (by decide)) _
          exact ⟨⟨k + 1, _, _, L[k].1, L[k].2, by omega, by go_num, ownsRow_setCell_below (ownsRow_setCell_below HO3.out hWl _) hWl _, fun i h e he => (HE3.out i h e he).kept hk4, (q3.set 0 _).set 1 _, HW3.out, hs, h50, (hB3.setCell (Nat.le_refl _) _).setCell (Nat.le_refl _) _, by simpa using hsz3⟩, by simp [intOf]; omega⟩
        · have hw1 : (wc == 0) = false := by simpa using hw0
          have HW3 : Hid ((wl, wc) = (L.take (k + 1)).foldl wantS ([], 0)) := Lib.hid (by rw [HS3.out, ← HW.out]; exact (if_neg (fun x => hw0 x.1)).symm)
          clear hw0
          go_wp2_with (at_builtin; refine Stop.go ?_)
          unfold Stop
          refine app_own rfl _ _ 35 rfl W.heap.size 27 i0 .nilIface 1 16 Tryd.underlying35 hi0 hz0 hz1 hz2 rfl (by decide) u3 k _ rfl (hown1.alloc _) w1.heap.size 1 1 [.iface ty x] 27 rfl
            (Blk.new w1 [.iface ty x] 27) rfl (by simp [Value.oneCell']) (by unfold maxLen; omega) (by omega) (by simp; omega) ?_
          intro v2 w3 hown3 hgrow3 hb3
          have hB3 : Below w.heap.size w w3 := (Bl.next hB1 (Bl.box w1 _)).trans (hb3.mono hWs)
          have hk3 : ∀ blk cs, Blk w1 blk cs 51 → Blk w3 blk cs 51 := fun blk cs h => Blk.kept (Blk.alloc h (.cells #[.iface ty x] 27)) hgrow3 (own_ne (hown1.alloc (.cells #[.iface ty x] 27)) (Blk.alloc h (.cells #[.iface ty x] 27)) (by decide))
          have q3 := Blk.below' (q1.alloc _) hb3 hWl
          have d0 := q3.cell (i := 0) rfl
          have d1 := q3.cell (i := 1) rfl
          have f0 := q3.frozen 0
          have f1 := q3.frozen 1
          have e0 := getC hB3 p0
          have e1 := getC hB3 p1
          have hsz3 : W.heap.size ≤ w3.heap.size := by have := hb3.size; simp at this; omega
          have HE3 : Hid (∀ i (h : i < L.length) e, (es ++ [.iface ty x])[i]? = some e → ErrV w3 (ownL L[i].1 L[i].2) (ownT L[i].2) e) := Lib.hid (errs_snoc hlt HL.out (fun i h e he => (HE1.out i h e he).kept hk3) (h1.kept hk3))
          have HO3 := Lib.hid hown3
          clear hown3 hown1 hgrow3 hb3 h1 q1 hk3
          go_wp2_with fail
          exact ⟨⟨k + 1, _, _, wl, wc, by omega, by go_num, HO3.out, HE3.out, q3, HW3.out, HS.out, hw50, hB3, hsz3⟩, by simp [intOf]; omega⟩
    · obtain rfl : k = L.length := by omega
      rw [List.take_length, want_fold] at HW
      have hwl : wl = (wantR L).1 := by rw [← HW.out]
      have hwc : wc = (wantR L).2 := by rw [← HW.out]
      subst hwl hwc
      have hfe := first_err L es HL.out HE.out
      have hsl := own_sl hown
      have hiso : ∀ e ∈ es, isErrV e := by
        intro e he
        obtain ⟨i, hi, rfl⟩ := List.getElem_of_mem he
        rcases (HE.out i (by have := HL.out; omega) _ (List.getElem?_eq_getElem hi)).nil_or with ⟨_, h⟩ | ⟨_, h⟩
        · exact .inl h
        · exact .inr h
      have hF : ∀ V x, (x = u3 ∨ x = .slice none 0 0) → Below wr.heap.size wr V → Calls Tryd.prog 17 #[x] V (fun e w' => ∃ r, e = .returned r ∧ Below V.heap.size V w' ∧ (x = u3 → r = firstV es) ∧ (x = .slice none 0 0 → r = .nilIface)) := by
        intro V x hx hV
        rcases hx with rfl | rfl
        · refine (fault_First es _ V (by have := HL.out; omega) hiso (by have := hsl.below hV; rwa [← HL.out] at this)).mono ?_
          rintro e w' ⟨rfl, hb⟩
          refine ⟨_, rfl, hb, fun _ => rfl, fun h => ?_⟩
          rw [h] at hsl
          obtain ⟨a', c', h'⟩ := hsl.slice
          simp only [Value.slice.injEq] at h'
          obtain rfl : es = [] := List.length_eq_zero_iff.1 (by have := HL.out; omega)
          rfl
        · refine (fault_First [] _ V (by simp) (by simp) (.inl ⟨_, _, rfl, rfl, rfl⟩)).mono ?_
          rintro e w' ⟨rfl, hb⟩
          refine ⟨_, rfl, hb, fun h => ?_, fun _ => rfl⟩
          rw [← h] at hsl
          obtain ⟨a', c', h'⟩ := hsl.slice
          simp only [Value.slice.injEq] at h'
          obtain rfl : es = [] := List.length_eq_zero_iff.1 (by have := HL.out; omega)
          rfl
      generalize firstV es = r1 at hfe hF
      have hT : ∀ V, Below wr.heap.size wr V → Calls Tryd.prog 15 #[r1] V (RetS (fun w' r => FltV w' r (wantR L).1 (wantR L).2) V) := by
        intro V hV
        have hlw : (ownL (wantR L).1 (wantR L).2).length ≤ 1000000 := by unfold ownL; split <;> simp; omega
        have := law05_Told (ownT (wantR L).2) (ownL (wantR L).1 (wantR L).2) r1 V hlw ((hg.below hbr).below hV) (hfe.below hV)
        rwa [blocks_want, codeOf_own] at this
      have hL : ∀ V, Below wr.heap.size wr V → Calls Tryd.prog 11 #[] V (Ret (.bool true) V) := fun V hV => lives05 V ((hg.below hbr).below hV)
      have hS : FltV wr (.agg #[.slice sa (wantR L).1.length sp, .int .i64 (wantR L).2]) (wantR L).1 (wantR L).2 := ⟨_, rfl, HS.out.below hbr⟩
      have hsame := fun V x y => ref05_Same (wantR L).1 (wantR L).2 x y V
      have d0 := hblk.cell (i := 0) rfl
      have d1 := hblk.cell (i := 1) rfl
      clear hown hsl hiso hfe HE HL HW HS hblk hg k0 HC
      generalize wantR L = q at *
      go_wp2_with fail
      go_region_held3 (fun V => V.cell? ⟨w.heap.size, 0, none⟩ = some (.slice sa q.1.length sp) ∧ V.cell? ⟨w.heap.size, 1, none⟩ = some (.int .i64 q.2) ∧ Below wr.heap.size wr V)
        (first | exact ⟨d0, d1, (Below.refl _ _).drew⟩ | exact held2e hb5 (by assumption))
        (first | (go_at_call 15; refine (hT _ (And.right (And.right (by assumption)))).mono ?_; rintro e w5 ⟨r, rfl, hb5, hr5⟩) | (go_at_call 17; refine (hF _ _ (by first | exact Or.inl rfl | exact Or.inr rfl) (And.right (And.right (by assumption)))).mono ?_; rintro e w5 ⟨r, rfl, hb5, hx1, hx2⟩; first | obtain rfl := hx1 rfl | obtain rfl := hx2 rfl) | (go_at_call 14; refine (hsame _ _ _ (by (first | assumption | (refine FltV.below ?_ hb5; assumption))) (hS.below (And.right (And.right (by assumption))))).mono ?_; rintro e w5 ⟨rfl, hb5⟩) | (go_at_call 11; refine (hL _ (And.right (And.right (by assumption)))).mono ?_; rintro e w5 ⟨rfl, hb5⟩))
      rename_i hh
      go_wp2_with fail
      go_ret
      exact ⟨rfl, Bl.next hbr hh.2.2⟩
end Go.Proofs.YthjemliaeklecaaDoor
