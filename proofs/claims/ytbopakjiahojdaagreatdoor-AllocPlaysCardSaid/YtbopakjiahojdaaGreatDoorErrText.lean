/- An error's text, as contracts. -/
import Derived.Test.YtbopakjiahojdaaGreatDoorErrCode
import Derived.Lib.ItoaNum
namespace Go.Proofs.YtbopakjiahojdaaGreatDoor
open Go.RowKit Go.Extern.Stop Go.Stop Go.Extern
set_option linter.unusedVariables false

set_option maxHeartbeats 1000000 in
/-- strconv.Itoa at a number of one digit (no table is read) -/
theorem Tryz.itoa_small (i : Nat) (hi : i < 10) (w : World) : Calls Tryz.prog 153 #[.int .i64 i] w fun e w' => e = .returned (.string ⟨(Lib.decDigits i).toArray⟩) ∧ w' = w := by
  have : i = 0 ∨ i = 1 ∨ i = 2 ∨ i = 3 ∨ i = 4 ∨ i = 5 ∨ i = 6 ∨ i = 7 ∨ i = 8 ∨ i = 9 := by omega
  rcases this with rfl | rfl | rfl | rfl | rfl | rfl | rfl | rfl | rfl | rfl <;> (
    go_enter Tryz.func153, Tryz.ntmps153
    go_wp2
    go_ret
    exact ⟨by simp [Lib.decDigits]; rfl, rfl⟩)

/-- the numbers whose text Itoa prints, whatever has been added to this world -/
def Itoas (w : World) (n : Int) : Prop := ∀ W, Below w.heap.size w W → Calls Tryz.prog 153 #[.int .i64 n] W (Ret (.string ⟨(Lib.itoa n).toArray⟩) W)
theorem Itoas.below {w W : World} {n : Int} (h : Itoas w n) (hb : Below w.heap.size w W) : Itoas W n := fun X hX => h X (Bl.next hb hX)
theorem Itoas.small {n : Nat} (hn : n < 10) (w : World) : Itoas w n := fun W _ => by
  refine (Tryz.itoa_small n hn W).mono ?_
  rintro e w' ⟨rfl, rfl⟩
  refine ⟨?_, Below.refl _ _⟩
  simp [Lib.itoa]

def sBlock : ByteArray := ⟨#[98, 108, 111, 99, 107, 32]⟩
def sColon : ByteArray := ⟨#[58, 32]⟩
def sError : ByteArray := ⟨#[101, 114, 114, 111, 114, 32]⟩
def sOther : ByteArray := ⟨#[111, 116, 104, 101, 114]⟩
def numB (n : Int) : ByteArray := ⟨(Lib.itoa n).toArray⟩
/-- an error's text -/
def textB : List (Option Int) → Option Int → ByteArray
  | [], none => ⟨#[]⟩
  | [], some c => sError ++ numB c
  | some b :: r, t => sBlock ++ numB b ++ sColon ++ textB r t
  | none :: r, t => sOther
theorem Tryz.methErrorN (v : Value) (w : World) : (Go.method 349 40 v "Error").run Tryz.prog w = .ok (152, v) w := by kernel_rfl
theorem Tryz.methErrorF (v : Value) (w : World) : (Go.method 349 133 v "Error").run Tryz.prog w = .ok (170, v) w := by kernel_rfl
theorem Tryz.nilErrorF (a : Addr) (w : World) : (nilAhead 349 133 (.pointer (some a)) "Error").run Tryz.prog w = .ok (some false) w := by kernel_rfl

theorem errno_error (c : Int) (w : World) (hI : Itoas w c) (hs : (numB c).size ≤ 100) : Calls Tryz.prog 152 #[.int .i64 c] w (Ret (.string (sError ++ numB c)) w) := by
  have hc := hI w (Below.refl _ _)
  change Calls _ _ _ _ (Ret (.string (numB c)) w) at hc
  generalize numB c = x at hs hc ⊢
  unfold sError
  go_enter Tryz.func152, Tryz.ntmps152
  go_wp2_with fail
  refine hc.mono ?_
  rintro e w' ⟨rfl, hb⟩
  have hz : ¬ ((6 : Nat) + x.size > 9223372036854775807) := by omega
  go_wp2_with fail
  go_ret
  exact ⟨rfl, hb⟩
set_option maxRecDepth 100000 in
set_option maxHeartbeats 1000000 in
theorem fault_error_n (blk : Nat) (b : Int) (c : Int) (s : ByteArray) (w : World) (c0 : w.cell? ⟨blk, 0, none⟩ = some (.int .i64 b)) (c1 : w.cell? ⟨blk, 1, none⟩ = some (.iface 40 (.int .i64 c))) (hI : Itoas w b) (hs : (numB b).size ≤ 100) (ht : s.size ≤ 8000000)
    (hcall : ∀ W, Below w.heap.size w W → Calls Tryz.prog 152 #[(.int .i64 c)] W (Ret (.string s) W)) :
    Calls Tryz.prog 170 #[.pointer (some ⟨blk, 0, none⟩)] w (Ret (.string (sBlock ++ numB b ++ sColon ++ s)) w) := by
  have f1 := Tryz.methErrorN
  have hc : ∀ z : Ext w, Calls Tryz.prog 153 #[.int .i64 b] z.val (Ret (.string (numB b)) z.val) := fun z => hI z.val z.below
  have hd : ∀ z : Ext w, Calls Tryz.prog 152 #[(.int .i64 c)] z.val (Ret (.string s) z.val) := fun z => hcall z.val z.below
  generalize numB b = x at hs hc ⊢
  have e0 : ∀ z : Ext w, z.val.cell? ⟨blk, 0, none⟩ = some (.int .i64 b) := fun z => z.get c0
  have e1 : ∀ z : Ext w, z.val.cell? ⟨blk, 1, none⟩ = some (.iface 40 (.int .i64 c)) := fun z => z.get c1
  unfold sBlock sColon
  go_enter Tryz.func170, Tryz.ntmps170
  go_wp2_with fail
  refine wp_region_ext (by kernel_rfl) (by kernel_rfl) ?_
  repeat (go_big_quiet_step (first | (go_at_call 153; exact Ret.ext (hc _)) | (go_at_call 152; exact Ret.ext (hd _))))
  refine wpQuiet_nil ?_
  intro wx
  go_wp2_with fail
  go_ret
  exact ⟨rfl, wx.below⟩
set_option maxRecDepth 100000 in
set_option maxHeartbeats 1000000 in
theorem fault_error_f (blk : Nat) (b : Int) (k : Nat) (s : ByteArray) (w : World) (c0 : w.cell? ⟨blk, 0, none⟩ = some (.int .i64 b)) (c1 : w.cell? ⟨blk, 1, none⟩ = some (.iface 133 (.pointer (some ⟨k, 0, none⟩)))) (hI : Itoas w b) (hs : (numB b).size ≤ 100) (ht : s.size ≤ 8000000)
    (hcall : ∀ W, Below w.heap.size w W → Calls Tryz.prog 170 #[(.pointer (some ⟨k, 0, none⟩))] W (Ret (.string s) W)) :
    Calls Tryz.prog 170 #[.pointer (some ⟨blk, 0, none⟩)] w (Ret (.string (sBlock ++ numB b ++ sColon ++ s)) w) := by
  have f1 := Tryz.methErrorF
  have f2 := Tryz.nilErrorF
  have hc : ∀ z : Ext w, Calls Tryz.prog 153 #[.int .i64 b] z.val (Ret (.string (numB b)) z.val) := fun z => hI z.val z.below
  have hd : ∀ z : Ext w, Calls Tryz.prog 170 #[(.pointer (some ⟨k, 0, none⟩))] z.val (Ret (.string s) z.val) := fun z => hcall z.val z.below
  generalize numB b = x at hs hc ⊢
  have e0 : ∀ z : Ext w, z.val.cell? ⟨blk, 0, none⟩ = some (.int .i64 b) := fun z => z.get c0
  have e1 : ∀ z : Ext w, z.val.cell? ⟨blk, 1, none⟩ = some (.iface 133 (.pointer (some ⟨k, 0, none⟩))) := fun z => z.get c1
  unfold sBlock sColon
  go_enter Tryz.func170, Tryz.ntmps170
  go_wp2_with fail
  refine wp_region_ext (by kernel_rfl) (by kernel_rfl) ?_
  repeat (go_big_quiet_step (first | (go_at_call 153; exact Ret.ext (hc _)) | (go_at_call 170; exact Ret.ext (hd _))))
  refine wpQuiet_nil ?_
  intro wx
  go_wp2_with fail
  go_ret
  exact ⟨rfl, wx.below⟩

/-- how long a text may become -/
theorem textB_size {l : List (Option Int)} {t : Option Int} (h : ∀ b, (some b ∈ l ∨ t = some b) → (numB b).size ≤ 100) : (textB l t).size ≤ 108 * l.length + 108 := by
  induction l with
  | nil =>
    cases t with
    | none => exact Nat.zero_le _
    | some c =>
      have := h c (.inr rfl)
      simp only [textB, ByteArray.size_append, sError, ByteArray.size_mk']; simp; omega
  | cons x r ih =>
    cases x with
    | none => simp only [textB, sOther, ByteArray.size_mk']; simp; try omega
    | some b =>
      have h1 := h b (.inl (by simp))
      have h2 := ih (fun b hb => h b (hb.imp (List.mem_cons_of_mem _) id))
      simp only [textB, ByteArray.size_append, sBlock, sColon, ByteArray.size_mk', List.length_cons]; simp; omega
/-- the method Error of the value returns this string -/
def Says (v : Value) (s : ByteArray) (w : World) : Prop :=
  (∃ c, v = .iface 40 (.int .i64 c) ∧ Calls Tryz.prog 152 #[.int .i64 c] w (Ret (.string s) w)) ∨
  (∃ k, v = .iface 133 (.pointer (some ⟨k, 0, none⟩)) ∧ Calls Tryz.prog 170 #[.pointer (some ⟨k, 0, none⟩)] w (Ret (.string s) w))
  ∨ False
/-- no Fault wraps nothing -/
def okE : List (Option Int) → Option Int → Bool
  | [], t => t.isSome
  | some _ :: r, t => okE r t
  | none :: r, t => true
theorem err_says (t : Option Int) : ∀ (l : List (Option Int)) (v : Value) (w : World), l.length ≤ 10000 → ErrV w l t v → okE l t = true → (∀ b, (some b ∈ l ∨ t = some b) → Itoas w b ∧ (numB b).size ≤ 100) → Says v (textB l t) w
  | [], v, w, hlen, hv, hn, hI => by
    cases t with
    | none => exact nomatch hn
    | some c =>
      obtain rfl : v = _ := hv
      exact .inl ⟨c, rfl, errno_error c w (hI c (.inr rfl)).1 (hI c (.inr rfl)).2⟩
  | some b :: r, v, w, hlen, hv, hn, hI => by
    obtain ⟨blk, v', rfl, hk, h3⟩ := hv
    have h1 := hk.cell (i := 0) rfl
    have h2 := hk.cell (i := 1) rfl
    simp only [List.length_cons] at hlen
    have hI' : ∀ b, (some b ∈ r ∨ t = some b) → Itoas w b ∧ (numB b).size ≤ 100 := fun b hb => hI b (hb.imp (List.mem_cons_of_mem _) id)
    have hz : (textB r t).size ≤ 8000000 := by have := textB_size (fun b hb => (hI' b hb).2); omega
    have ih : ∀ W, Below w.heap.size w W → Says v' (textB r t) W := fun W hW => err_says t r v' W (by omega) (h3.below hW) hn (fun b hb => ⟨(hI' b hb).1.below hW, (hI' b hb).2⟩)
    have hb := hI b (.inl (by simp))
    refine .inr (.inl ⟨blk, rfl, ?_⟩)
    rcases ih w (Below.refl _ _) with ⟨c, rfl, _⟩ | ⟨k, rfl, _⟩ | hO
    · exact fault_error_n blk b c _ w h1 h2 hb.1 hb.2 hz (fun W hW => by rcases ih W hW with ⟨c, h, hc⟩ | ⟨k, h, _⟩ | hO <;> first | (cases h; exact hc) | exact nomatch h | exact hO.elim | (obtain ⟨u, h, _⟩ := hO; exact nomatch h))
    · exact fault_error_f blk b k _ w h1 h2 hb.1 hb.2 hz (fun W hW => by rcases ih W hW with ⟨c, h, hc⟩ | ⟨k, h, hc⟩ | hO <;> first | (cases h; exact hc) | exact nomatch h | exact hO.elim | (obtain ⟨u, h, _⟩ := hO; exact nomatch h))
    · exact hO.elim
  | none :: r, v, w, hlen, hv, hn, hI => hv.elim

set_option maxHeartbeats 400000 in
theorem fault_Text (t : Option Int) (l : List (Option Int)) (v : Value) (w : World) (hlen : l.length ≤ 10000) (hv : ErrV w l t v) (hn : noErr l t = false → okE l t = true) (hI : ∀ b, (some b ∈ l ∨ t = some b) → Itoas w b ∧ (numB b).size ≤ 100) :
    Calls Tryz.prog 51 #[v] w (Ret (.string (textB l t)) w) := by
  rcases hv.nil_or with ⟨hz, rfl⟩ | ⟨hz, _, _, _⟩
  · obtain ⟨rfl, rfl⟩ := noErr_true hz
    unfold textB
    go_enter Tryz.func51, Tryz.ntmps51
    go_wp2_with fail
    go_ret
    exact ⟨rfl, Below.refl _ _⟩
  have hs := err_says t l v w hlen hv (hn hz) hI
  generalize textB l t = s at hs ⊢
  clear hv hI hn hz
  have f1 := Tryz.methErrorN
  have f2 := Tryz.methErrorF
  have f3 := Tryz.nilErrorF
  rcases hs with ⟨c, rfl, hc⟩ | ⟨k, rfl, hc⟩ | hO
  · go_enter Tryz.func51, Tryz.ntmps51
    go_wp2_with fail
    refine hc.mono ?_
    rintro e w' ⟨rfl, hb⟩
    go_wp2_with fail
    go_ret
    exact ⟨rfl, hb⟩
  · go_enter Tryz.func51, Tryz.ntmps51
    go_wp2_with fail
    refine hc.mono ?_
    rintro e w' ⟨rfl, hb⟩
    go_wp2_with fail
    go_ret
    exact ⟨rfl, hb⟩
  · exact hO.elim
end Go.Proofs.YtbopakjiahojdaaGreatDoor

