/- audit.Of, and scantlingref28.Damage and Of, as contracts. -/
import Derived.Test.YthjemliaeklecaaDoorErrRef
namespace Go.Proofs.YthjemliaeklecaaDoor
open Go.RowKit Go.Extern.Stop Go.Stop Go.Extern
set_option linter.unusedVariables false

def dmgV (kind at_ code : Int) : Value := .agg #[.int .i64 kind, .int .i64 at_, .int .i64 code]
theorem res_dmg {w : World} {B : Nat} {a b c : Int} {t : TypeId} (h : Blk w B [.int .i64 a, .int .i64 b, .int .i64 c] t) {fn : Func} {k : Nat} {tmps : Array Value} (hfn : fn.results = #[.cell k 53]) (e : tmps.getD k undef = .pointer (some ⟨B, 0, none⟩)) :
    (results fn tmps).run Tryd.prog w = .ok (dmgV a b c) w := by
  have c0 := h.cell (i := 0) rfl
  have c1 := h.cell (i := 1) rfl
  have c2 := h.cell (i := 2) rfl
  have e' : tmps[k]?.getD undef = .pointer (some ⟨B, 0, none⟩) := by simpa using e
  simp [results, hfn, go_sem, c0, c1, c2, e', dmgV]
theorem ref28_Damage (a b c : Int) (w : World) : Calls Tryd.prog 50 #[.int .i64 a, .int .i64 b, .int .i64 c] w (Ret (dmgV a b c) w) := by
  go_enter Tryd.func50, Tryd.ntmps50
  go_wp2_with fail
  exact bodyPost_ret (res_dmg (Blk.new w [.int .i64 a, .int .i64 b, .int .i64 c] 53) rfl rfl) rfl ⟨rfl, Bl.box _ _⟩
/-- the last block of an error, or -1 -/
def lastB (l : List Int) : Int := l.getLast?.getD (-1)
theorem lastB_nil {l : List Int} (h : l.length = 0) : lastB l = -1 := by rw [List.length_eq_zero_iff.1 h]; rfl
theorem lastB_get {l : List Int} (h : 0 < l.length) : lastB l = l[l.length - 1] := by
  rw [lastB, List.getLast?_eq_getElem?, List.getElem?_eq_getElem (by omega)]; rfl

set_option maxRecDepth 100000 in
set_option maxHeartbeats 2000000 in
theorem audit_Of (kind : Int) (t : Option Int) (l : List (Option Int)) (v : Value) (w : World) (hlen : l.length ≤ 1000000) (hg : ErrT w) (hv : ErrV w l t v) :
    Calls Tryd.prog 27 #[.int .i64 kind, v] w (Ret (dmgV kind (lastB (blocksOf l)) (codeOf l t)) w) := by
  have hB := Bl.box w (.cells #[.int .i64 0, .int .i64 0, .int .i64 0] 53)
  have k0 := Blk.new w [.int .i64 0, .int .i64 0, .int .i64 0] 53
  have hBk := fault_Blocks t l v _ hlen (hv.below hB)
  have hCd := fun (W : World) (hW : Below w.heap.size w W) => fault_Code t l v W (hg.below hW) (hv.below hW)
  clear hv hg hlen
  generalize codeOf l t = c at hCd ⊢
  generalize blocksOf l = L at hBk ⊢
  obtain ⟨q, hq⟩ : ∃ q, lastB L = q := ⟨_, rfl⟩
  rw [hq]
  have HQ := Lib.hid hq; clear hq
  go_enter Tryd.func27, Tryd.ntmps27
  go_wp2_with fail
  refine hBk.mono ?_
  rintro e w1 ⟨r, rfl, hb1, h1⟩
  have hB1 := Bl.next hB hb1
  have k1 := k0.below hb1
  have hs := own_sl h1
  obtain ⟨a, m, rfl⟩ := hs.slice
  have hC := hCd w1 hB1
  clear hb1 k0 h1 hB hCd hBk
  have hL := hs.len
  by_cases h0 : L.length = 0
  · have HQ2 := Lib.hid (lastB_nil h0)
    have h0' : ¬ ((0 : Int) < (L.length : Int)) := by omega
    go_wp2_with fail
    refine hC.mono ?_
    rintro e w2 ⟨rfl, hb2⟩
    have k2 := k1.below hb2
    have d0 := k2.cell (i := 0) rfl
    have d1 := k2.cell (i := 1) rfl
    have d2 := k2.cell (i := 2) rfl
    have f0 := k2.frozen 0
    have f1 := k2.frozen 1
    have f2 := k2.frozen 2
    go_wp2_with fail
    exact bodyPost_ret (res_dmg (((k2.set 0 _).set 1 _).set 2 _) rfl rfl) rfl ⟨by rw [← HQ.out, HQ2.out], (((Bl.next hB1 hb2).setCell (Nat.le_refl _) _).setCell (Nat.le_refl _) _).setCell (Nat.le_refl _) _⟩
  · have hp : 0 < L.length := by omega
    have HQ2 := Lib.hid (lastB_get hp)
    have h0' : (0 : Int) < (L.length : Int) := by omega
    rcases Sl.at hs with hn | ⟨b, off, rfl, hcell⟩
    · rw [List.map_eq_nil_iff] at hn; subst hn; exact absurd hp (by simp)
    have ck := hcell (L.length - 1) (.int .i64 L[L.length - 1]) (by simp [List.getElem?_eq_getElem (show L.length - 1 < L.length by omega)])
    have z1 : (L.length : Int) - 1 = ((L.length - 1 : Nat) : Int) := by omega
    have i1 : (0 : Int) ≤ ((L.length - 1 : Nat) : Int) := by omega
    have i2 : ((L.length - 1 : Nat) : Int) < (L.length : Int) := by omega
    clear hcell
    go_wp2_with fail
    refine hC.mono ?_
    rintro e w2 ⟨rfl, hb2⟩
    have k2 := k1.below hb2
    have d0 := k2.cell (i := 0) rfl
    have d1 := k2.cell (i := 1) rfl
    have d2 := k2.cell (i := 2) rfl
    have f0 := k2.frozen 0
    have f1 := k2.frozen 1
    have f2 := k2.frozen 2
    go_wp2_with fail
    exact bodyPost_ret (res_dmg (((k2.set 0 _).set 1 _).set 2 _) rfl rfl) rfl ⟨by rw [← HQ.out, HQ2.out], (((Bl.next hB1 hb2).setCell (Nat.le_refl _) _).setCell (Nat.le_refl _) _).setCell (Nat.le_refl _) _⟩

set_option maxRecDepth 100000 in
set_option maxHeartbeats 2000000 in
theorem ref28_Of (kind : Int) (L : List Int) (c : Int) (v : Value) (w : World) (hv : FltV w v L c) :
    Calls Tryd.prog 26 #[.int .i64 kind, v] w (Ret (dmgV kind (lastB L) c) w) := by
  obtain ⟨s, rfl, hs0⟩ := hv
  obtain ⟨a, m, rfl⟩ := hs0.slice
  have hL := hs0.len
  have hB : Below w.heap.size w ((w.alloc (.cells #[.slice a L.length m, .int .i64 c] 24)).alloc (.cells #[.int .i64 0, .int .i64 0, .int .i64 0] 53)) := Bl.next (Bl.box _ _) (Bl.box _ _)
  have k0 : Blk ((w.alloc (.cells #[.slice a L.length m, .int .i64 c] 24)).alloc (.cells #[.int .i64 0, .int .i64 0, .int .i64 0] 53)) w.heap.size [.slice a L.length m, .int .i64 c] 24 := (Blk.new _ _ _).alloc _
  have k1 := Blk.new (w.alloc (.cells #[.slice a L.length m, .int .i64 c] 24)) [.int .i64 0, .int .i64 0, .int .i64 0] 53
  simp only [World.size_alloc] at k1
  have hs := hs0.below hB
  obtain ⟨q, hq⟩ : ∃ q, lastB L = q := ⟨_, rfl⟩
  rw [hq]
  have HQ := Lib.hid hq; clear hq hs0
  by_cases h0 : L.length = 0
  · have HQ2 := Lib.hid (lastB_nil h0)
    obtain rfl := List.length_eq_zero_iff.1 h0
    simp only [List.length_nil] at hB k0 k1 hs ⊢
    go_enter Tryd.func26, Tryd.ntmps26
    go_wp2_with fail
    refine (ref28_Damage _ _ _ _).mono ?_
    rintro e w2 ⟨rfl, hb2⟩
    have k2 := k1.below hb2
    have d0 := k2.cell (i := 0) rfl
    have d1 := k2.cell (i := 1) rfl
    have d2 := k2.cell (i := 2) rfl
    have f0 := k2.frozen 0
    have f1 := k2.frozen 1
    have f2 := k2.frozen 2
    unfold dmgV
    go_wp2_with fail
    exact bodyPost_ret (res_dmg (((k2.set 0 _).set 1 _).set 2 _) rfl rfl) rfl ⟨by rw [← HQ.out, HQ2.out] <;> rfl, (((Bl.next hB hb2).setCell (by simp) _).setCell (by simp) _).setCell (by simp) _⟩
  · have hp : 0 < L.length := by omega
    have HQ2 := Lib.hid (lastB_get hp)
    have h0' : (0 : Int) < (L.length : Int) := by omega
    rcases Sl.at hs with hn | ⟨b, off, rfl, hcell⟩
    · rw [List.map_eq_nil_iff] at hn; subst hn; exact absurd hp (by simp)
    have ck := hcell (L.length - 1) (.int .i64 L[L.length - 1]) (by simp [List.getElem?_eq_getElem (show L.length - 1 < L.length by omega)])
    have z1 : (L.length : Int) - 1 = ((L.length - 1 : Nat) : Int) := by omega
    have i1 : (0 : Int) ≤ ((L.length - 1 : Nat) : Int) := by omega
    have i2 : ((L.length - 1 : Nat) : Int) < (L.length : Int) := by omega
    clear hcell
    go_enter Tryd.func26, Tryd.ntmps26
    have kk := k0.lt
    have c0 := k0.cell (i := 0) rfl
    have c1 := k0.cell (i := 1) rfl
    go_wp2_with fail
    refine (ref28_Damage _ _ _ _).mono ?_
    rintro e w2 ⟨rfl, hb2⟩
    have k2 := k1.below hb2
    have d0 := k2.cell (i := 0) rfl
    have d1 := k2.cell (i := 1) rfl
    have d2 := k2.cell (i := 2) rfl
    have f0 := k2.frozen 0
    have f1 := k2.frozen 1
    have f2 := k2.frozen 2
    unfold dmgV
    go_wp2_with fail
    exact bodyPost_ret (res_dmg (((k2.set 0 _).set 1 _).set 2 _) rfl rfl) rfl ⟨by rw [← HQ.out, HQ2.out] <;> rfl, (((Bl.next hB hb2).setCell (by simp) _).setCell (by simp) _).setCell (by simp) _⟩
end Go.Proofs.YthjemliaeklecaaDoor
