/- The walk of SpanSplits: for any span, any keys and any key it returns true and changes nothing that lay there. -/
import Derived.Test.YthjemliaeklecaaSpanLaws
namespace Go.Proofs.Ythjemliaeklecaa
open Go.RowKit
set_option linter.unusedVariables false

theorem fits_zero {lo hi : Int} {l : List Int} (h : fitsI lo hi l = 0) : rightB lo hi = true ∧ SortP l ∧ ∀ k ∈ l, lo ≤ k ∧ k < hi := by
  unfold fitsI at h
  by_cases h1 : rightB lo hi = true
  · rw [if_pos h1] at h
    by_cases h2 : SortP l
    · rw [if_pos h2] at h
      by_cases h3 : ∀ k ∈ l, lo ≤ k ∧ k < hi
      · exact ⟨h1, h2, h3⟩
      · rw [if_neg h3] at h; simp at h
    · rw [if_neg h2] at h; simp at h
  · rw [if_neg h1] at h; simp at h
theorem SortP.le {l : List Int} (h : SortP l) {i j : Nat} {x y : Int} (hij : i ≤ j) (hx : l[i]? = some x) (hy : l[j]? = some y) : x ≤ y := by
  by_cases h0 : i = j
  · subst h0; rw [hx] at hy; cases hy; omega
  · have hj : j < l.length := by rcases List.getElem?_eq_some_iff.1 hy with ⟨h, _⟩; exact h
    have := h.lt j i (by omega) hj
    rw [hx, hy] at this; simp at this; omega
/-- child k, where the keys fit: it begins at key k, and ends behind it, at key k + 1 or at the span's end -/
theorem part_facts {lo hi : Int} {l : List Int} (h : fitsI lo hi l = 0) {k : Nat} {x : Int} (hx : l[k]? = some x) :
    (partAt hi l k).1 = x ∧ x < (partAt hi l k).2 ∧ (partAt hi l k).2 ≤ hi ∧ 0 ≤ x ∧ hi ≤ 281474976710656 := by
  obtain ⟨h1, h2, h3⟩ := fits_zero h
  have hb := h3 x (List.mem_of_getElem? hx)
  simp only [rightB, decide_eq_true_eq] at h1
  refine ⟨by simp [partAt, hx], ?_, ?_, by omega, by omega⟩
  all_goals
    simp only [partAt]
    cases hy : l[k+1]? with
    | none => simp; try omega
    | some y =>
      have hj : k + 1 < l.length := by rcases List.getElem?_eq_some_iff.1 hy with ⟨h, _⟩; exact h
      have := h2 (k + 1) hj (by omega)
      simp only [Nat.add_sub_cancel] at this
      rw [hx, hy] at this
      have hb2 := h3 y (List.mem_of_getElem? hy)
      simp at this ⊢; try omega
theorem part_prev {hi : Int} {l : List Int} {k : Nat} {x : Int} (hx : l[k + 1]? = some x) : (partAt hi l k).2 = x := by simp [partAt, hx]
/-- in how many of the first k children a key is -/
def cntI (hi : Int) (l : List Int) (key : Int) (k : Nat) : Int := if k = 0 then 0 else if l[0]?.getD 0 ≤ key ∧ key < l[k]?.getD hi then 1 else 0
theorem cnt_succ {lo hi key : Int} {l : List Int} (h : fitsI lo hi l = 0) {k : Nat} (hk : k < l.length) :
    cntI hi l key (k + 1) = cntI hi l key k + if hasB (partAt hi l k).1 (partAt hi l k).2 key then 1 else 0 := by
  obtain ⟨x, hx⟩ : ∃ x, l[k]? = some x := ⟨l[k], by simp⟩
  obtain ⟨x0, hx0⟩ : ∃ x0, l[0]? = some x0 := ⟨l[0], by simp⟩
  obtain ⟨p1, p2, p3, _, _⟩ := part_facts h hx
  have hle := (fits_zero h).2.1.le (Nat.zero_le k) hx0 hx
  have e2 : l[k+1]?.getD hi = (partAt hi l k).2 := rfl
  have e1 : l[k]?.getD hi = x := by rw [hx]; rfl
  by_cases h0 : k = 0
  · subst h0
    have he : x = x0 := by rw [hx0] at hx; injection hx with hx; exact hx.symm
    rw [he] at p1 p2
    have c0 : cntI hi l key 0 = 0 := by simp [cntI]
    have c1 : cntI hi l key (0 + 1) = if x0 ≤ key ∧ key < (partAt hi l 0).2 then 1 else 0 := by simp only [cntI, e2, hx0]; rfl
    rw [c0, c1, p1]
    by_cases hc : x0 ≤ key ∧ key < (partAt hi l 0).2
    · rw [if_pos hc, if_pos (hasB_iff.2 hc)]; rfl
    · rw [if_neg hc, if_neg (fun h => hc (hasB_iff.1 h))]; rfl
  · have ck : cntI hi l key k = if x0 ≤ key ∧ key < x then 1 else 0 := by simp only [cntI, e1, hx0]; rw [if_neg h0]; rfl
    have cs : cntI hi l key (k + 1) = if x0 ≤ key ∧ key < (partAt hi l k).2 then 1 else 0 := by simp only [cntI, e2, hx0]; rfl
    rw [ck, cs, p1]
    by_cases hc : x0 ≤ key ∧ key < x
    · rw [if_pos hc, if_pos (by omega), if_neg (fun h => by have := hasB_iff.1 h; omega)]; rfl
    · by_cases hd : x ≤ key ∧ key < (partAt hi l k).2
      · rw [if_neg hc, if_pos (by omega), if_pos (hasB_iff.2 hd)]; rfl
      · rw [if_neg hc, if_neg (by omega), if_neg (fun h => hd (hasB_iff.1 h))]; rfl
theorem cnt_all {hi key : Int} {l : List Int} {x0 : Int} (hx0 : l[0]? = some x0) : cntI hi l key l.length = if x0 ≤ key ∧ key < hi then 1 else 0 := by
  have h0 : l.length ≠ 0 := by rcases List.getElem?_eq_some_iff.1 hx0 with ⟨h, _⟩; omega
  simp [cntI, h0, hx0]
theorem cnt_range (hi : Int) (l : List Int) (key : Int) (k : Nat) : 0 ≤ cntI hi l key k ∧ cntI hi l key k ≤ 1 := by
  unfold cntI; split
  · omega
  · split <;> omega
theorem splitL_get {hi : Int} {l : List Int} {k : Nat} (h : k < l.length) : (splitL hi l)[k]? = some (partAt hi l k) := by simp [splitL, h]
theorem splitL_length (hi : Int) (l : List Int) : (splitL hi l).length = l.length := by simp [splitL]

set_option maxRecDepth 100000 in
set_option maxHeartbeats 4000000 in
theorem span_splits (lo hi key : Int) (v : Value) (l : List Int) (w : World) (hl : Ints w v l) :
    Calls Try.prog 4 #[spanV lo hi, v, .int .i64 key] w (Ret (.bool true) w) := by
  have hlen := Sl.len hl
  obtain ⟨a, c, rfl⟩ := hl.slice
  unfold spanV
  by_cases hgt : 200 < l.length
  · go_enter Try.func4, Try.ntmps4
    go_wp2_with fail
    refine (span_lives _).mono ?_
    rintro e w1 ⟨rfl, hb1⟩
    go_wp2_with fail
    go_ret
    exact ⟨rfl, Bl.next (Bl.box w _) hb1⟩
  have hle : l.length ≤ 200 := by omega
  go_enter Try.func4, Try.ntmps4
  go_wp2_with fail
  have k0 := Blk.new w [.int .i64 lo, .int .i64 hi] 23
  have hl1 := hl.below (Bl.box w (.cells #[.int .i64 lo, .int .i64 hi] 23))
  have hB := Bl.box w (.cells #[.int .i64 lo, .int .i64 hi] 23)
  obtain ⟨W, hW⟩ : ∃ W, w.alloc (.cells #[.int .i64 lo, .int .i64 hi] 23) = W := ⟨_, rfl⟩
  change Blk (w.alloc (.cells #[.int .i64 lo, .int .i64 hi] 23)) _ _ _ at k0
  rw [hW] at k0 hl1 hB ⊢
  clear hW hl
  refine (span_split lo hi _ l _ (by omega) hl1).mono ?_
  rintro e w1 ⟨r, rfl, hb1, hr⟩
  have k1 := k0.below hb1
  have hl2 := hl1.below hb1
  have hB1 := Bl.next hB hb1
  clear hb1 hB hl1 k0
  have z1 := k1.lt
  have c10 := k1.cell (i := 0) rfl
  have c11 := k1.cell (i := 1) rfl
  go_wp2_with fail
  refine (span_fits lo hi _ l _ hl2).mono ?_
  rintro e w2 ⟨rfl, hb2⟩
  have k2 := k1.below hb2
  have hl3 := hl2.below hb2
  have hB2 := Bl.next hB1 hb2
  have hr2 := Sl.below hr hb2
  clear hr hb2 hB1 hl2 k1 z1 c10 c11
  obtain ⟨a1, c1, rfl⟩ := Sl.slice hr2
  by_cases hf : fitsI lo hi l = 0 ∧ l.length ≠ 0
  case neg =>
    have hL : splitR lo hi l = [] := by
      by_cases h0 : fitsI lo hi l = 0
      · have : l.length = 0 := by omega
        obtain rfl := List.length_eq_zero_iff.1 this
        simp [splitR, splitL]
      · exact splitR_bad h0
    rw [hL]
    by_cases h0 : fitsI lo hi l = 0
    · have hz : l.length = 0 := by omega
      obtain rfl := List.length_eq_zero_iff.1 hz
      have hd : (fitsI lo hi [] != 0) = false := by simpa using h0
      clear hf hL h0 hz
      go_wp2_with fail
      refine (span_lives _).mono ?_
      rintro e w3 ⟨rfl, hb3⟩
      go_wp2_with fail
      go_ret
      exact ⟨rfl, Bl.next hB2 hb3⟩
    · have hd : (fitsI lo hi l != 0) = true := by simpa using h0
      clear hf hL h0
      go_wp2_with fail
      refine (span_lives _).mono ?_
      rintro e w3 ⟨rfl, hb3⟩
      go_wp2_with fail
      go_ret
      exact ⟨rfl, Bl.next hB2 hb3⟩
  obtain ⟨hf, hne⟩ := hf
  have hL := splitR_ok hf
  rw [hL] at hr2 ⊢
  rw [splitL_length] at hr2 ⊢
  have hd : (fitsI lo hi l != 0) = false := by simpa using hf
  have hne2 : ((l.length : Int) == 0) = false := beq_eq_false_iff_ne.2 (by omega)
  have hpos : 0 < l.length := by omega
  have HF := Lib.hid hf
  have HR : Hid (∀ (k : Nat) x, l[k]? = some x → ∃ b off, a1 = some ⟨b, off, none⟩ ∧ w2.cell? ⟨b, off + k * 2, none⟩ = some (.int .i64 x) ∧ w2.cell? ⟨b, off + k * 2 + 1, none⟩ = some (.int .i64 (partAt hi l k).2)) := by
    intro k x hx
    have hk : k < l.length := by rcases List.getElem?_eq_some_iff.1 hx with ⟨h, _⟩; exact h
    have h := Pairs.at (l := splitL hi l) (by unfold Pairs; rw [splitL_length]; exact hr2) k _ (splitL_get hk)
    rwa [(part_facts hf hx).1] at h
  have HK : Hid (∀ (k : Nat) x, l[k]? = some x → ∃ b off, a = some ⟨b, off, none⟩ ∧ w2.cell? ⟨b, off + k, none⟩ = some (.int .i64 x)) := by
    intro k x hx
    rcases Sl.at hl3 with h | ⟨b, off, h1, h2⟩
    · have : l = [] := by simpa using h
      rw [this] at hx; simp at hx
    · exact ⟨b, off, h1, h2 k _ (by simp [hx])⟩
  obtain ⟨x0, hx0⟩ : ∃ x0, l[0]? = some x0 := ⟨l[0], by simp⟩
  obtain ⟨y, hy⟩ : ∃ y, l[l.length - 1]? = some y := ⟨l[l.length - 1], by simp⟩
  have hlast : (partAt hi l (l.length - 1)).2 = hi := by
    have e : l.length - 1 + 1 = l.length := by omega
    simp [partAt, e]
  obtain ⟨b1, o1, rfl, h10, _⟩ := HR.out 0 x0 hx0
  obtain ⟨b2, o2, e2, _, h21⟩ := HR.out _ y hy
  simp only [Option.some.injEq, Addr.mk.injEq, and_true] at e2
  obtain ⟨rfl, rfl⟩ := e2
  rw [hlast] at h21
  obtain ⟨b, off, rfl, h30⟩ := HK.out 0 x0 hx0
  simp only [Nat.zero_mul, Nat.add_zero] at h10 h30
  have e10 : ∀ z : Ext w2, z.val.cell? ⟨b1, o1, none⟩ = some (.int .i64 x0) := fun z => z.get h10
  have e21 : ∀ z : Ext w2, z.val.cell? ⟨b1, o1 + (l.length - 1) * 2 + 1, none⟩ = some (.int .i64 hi) := fun z => z.get h21
  have e30 : ∀ z : Ext w2, z.val.cell? ⟨b, off, none⟩ = some (.int .i64 x0) := fun z => z.get h30
  have e01 : ∀ z : Ext w2, z.val.cell? ⟨w.heap.size, 1, none⟩ = some (.int .i64 hi) := fun z => z.get (k2.cell (i := 1) rfl)
  have HX0 := Lib.hid hx0
  clear hx0 hy hlast hf hL hne h10 h21 h30 hr2 hl3
  go_wp2_with fail
  refine wp_region_ext (by kernel_rfl) (by kernel_rfl) ?_
  repeat (go_big_quiet_step (fail))
  refine wpQuiet_nil ?_
  intro wx
  have hB3 := Bl.next hB2 wx.below
  have hw3 : Below w2.heap.size w2 wx.val := wx.below
  obtain ⟨w3, hb3⟩ := wx
  dsimp only at hB3 hw3 ⊢
  clear hb3 e10 e21 e30 e01
  go_wp2_with fail
  go_loopw [8, 9] (fun n i wr => ∃ k : Nat, k ≤ l.length ∧ i = .int .i64 k ∧ n = .int .i64 (cntI hi l key k) ∧ Below w2.heap.size w2 wr) (fun _ i _ => l.length - (intOf i).toNat)
  case atStart => exact ⟨0, by omega, rfl, by simp [cntI], hw3⟩
  case round =>
    obtain ⟨k, hk, rfl, rfl, hbr⟩ := hrel
    by_cases hlt : k < l.length
    · obtain ⟨x, hx⟩ : ∃ x, l[k]? = some x := ⟨l[k], by simp⟩
      obtain ⟨b2, o2, e2, h10, h11⟩ := HR.out k x hx
      simp only [Option.some.injEq, Addr.mk.injEq, and_true] at e2
      obtain ⟨rfl, rfl⟩ := e2
      obtain ⟨b3, o3, e3, h30⟩ := HK.out k x hx
      simp only [Option.some.injEq, Addr.mk.injEq, and_true] at e3
      obtain ⟨rfl, rfl⟩ := e3
      obtain ⟨p1, p2, p3, p4, p5⟩ := part_facts HF.out hx
      obtain ⟨u, hu⟩ : ∃ u, (partAt hi l k).2 = u := ⟨_, rfl⟩
      rw [hu] at h11 p2 p3
      have hrt : rightB x u = true := by simp only [rightB, decide_eq_true_eq]; omega
      have hhs : hasB x u x = true := hasB_iff.2 ⟨by omega, p2⟩
      have HS := Lib.hid (cnt_succ (key := key) HF.out hlt)
      rw [p1, hu] at HS
      have hcr := cnt_range hi l key k
      obtain ⟨n, hn⟩ : ∃ n, cntI hi l key k = n := ⟨_, rfl⟩
      rw [hn] at HS hcr ⊢
      have e10 : ∀ z : Ext wr, z.val.cell? ⟨b1, o1 + k * 2, none⟩ = some (.int .i64 x) := fun z => z.get (getC hbr h10)
      have e11 : ∀ z : Ext wr, z.val.cell? ⟨b1, o1 + k * 2 + 1, none⟩ = some (.int .i64 u) := fun z => z.get (getC hbr h11)
      have e30 : ∀ z : Ext wr, z.val.cell? ⟨b, off + k, none⟩ = some (.int .i64 x) := fun z => z.get (getC hbr h30)
      have HX := Lib.hid hx
      clear h10 h11 h30 p1 hu hn hx
      by_cases hk0 : k = 0
      case' neg =>
        have hd1 : decide ((0 : Int) < (k : Int)) = true := by simp; omega
        have hd0 : decide (0 < k) = true := by simp; omega
        have hk1 : 1 ≤ k := by omega
        obtain ⟨z, hz⟩ : ∃ z, l[k - 1]? = some z := ⟨l[k - 1], by simp⟩
        obtain ⟨b2, o2, e2, _, h12⟩ := HR.out (k - 1) z hz
        simp only [Option.some.injEq, Addr.mk.injEq, and_true] at e2
        obtain ⟨rfl, rfl⟩ := e2
        rw [part_prev (k := k - 1) (x := x) (by rw [Nat.sub_add_cancel hk1]; exact HX.out)] at h12
        have e12 : ∀ z : Ext wr, z.val.cell? ⟨b1, o1 + (k - 1) * 2 + 1, none⟩ = some (.int .i64 x) := fun z => z.get (getC hbr h12)
        clear h12 hz hk0
      case' pos =>
        have hd1 : decide ((0 : Int) < (k : Int)) = false := by simp; omega
        have hd0 : decide (0 < k) = false := by simp; omega
        clear hk0
      all_goals
        go_wp2_with fail
        refine wp_region_ext (by kernel_rfl) (by kernel_rfl) ?_
        repeat (go_big_quiet_step (first | (go_at_call 7; exact Ret.ext (span_right _ _ _)) | (go_at_call 9; exact Ret.ext (span_has _ _ _ _))))
        refine wpQuiet_nil ?_
        intro wx
        have f10 := e10 wx
        have f11 := e11 wx
        have hb4 := hbr.trans (wx.below.mono hbr.size)
        obtain ⟨w4, hw4⟩ := wx
        dsimp only at f10 f11 hb4 ⊢
        clear e10 e11 e30 hw4
        go_wp2_with fail
        refine (span_has _ _ _ _).mono ?_
        rintro e w5 ⟨rfl, hb5⟩
        by_cases hq : hasB x u key = true
        · have HS2 : Hid (cntI hi l key (k + 1) = n + 1) := by have := HS.out; rw [if_pos hq] at this; exact this
          go_wp2_with fail
          go_roundw
          case rel => exact ⟨k + 1, by omega, by go_num, by rw [HS2.out], hb4.trans (hb5.mono hb4.size)⟩
          case measure => simp [intOf]; omega
        · have hq : hasB x u key = false := by simpa using hq
          have HS2 : Hid (cntI hi l key (k + 1) = n) := Lib.hid (by have := HS.out; rw [hq] at this; simpa using this)
          go_wp2_with fail
          go_roundw
          case rel => exact ⟨k + 1, by omega, by go_num, by rw [HS2.out], hb4.trans (hb5.mono hb4.size)⟩
          case measure => simp [intOf]; omega
    · obtain rfl : k = l.length := by omega
      rw [cnt_all HX0.out]
      have k4 := k2.below hbr
      have c40 := k4.cell (i := 1) rfl
      obtain ⟨b3, o3, e3, h30⟩ := HK.out 0 x0 HX0.out
      simp only [Option.some.injEq, Addr.mk.injEq, and_true] at e3
      obtain ⟨rfl, rfl⟩ := e3
      simp only [Nat.add_zero] at h30
      have h31 := getC hbr h30
      clear h30
      by_cases h1 : x0 ≤ key
      · by_cases h2 : key < hi
        · rw [if_pos ⟨h1, h2⟩]
          go_wp2_with fail
          refine (span_lives _).mono ?_
          rintro e w5 ⟨rfl, hb5⟩
          go_wp2_with fail
          go_ret
          exact ⟨rfl, Bl.next (Bl.next hB2 hbr) hb5⟩
        · rw [if_neg (fun h => h2 h.2)]
          go_wp2_with fail
          refine (span_lives _).mono ?_
          rintro e w5 ⟨rfl, hb5⟩
          go_wp2_with fail
          go_ret
          exact ⟨rfl, Bl.next (Bl.next hB2 hbr) hb5⟩
      · rw [if_neg (fun h => h1 h.1)]
        go_wp2_with fail
        refine (span_lives _).mono ?_
        rintro e w5 ⟨rfl, hb5⟩
        go_wp2_with fail
        go_ret
        exact ⟨rfl, Bl.next (Bl.next hB2 hbr) hb5⟩
end Go.Proofs.Ythjemliaeklecaa
