/- errors.Is of an error that lies in memory (Faults over an Errno) at an Errno, and fault.Is. -/
import Derived.Test.YtoiblgeheblddaaErrIs
import Derived.Test.YtoiblgeheblddaaErrAs
namespace Go.Proofs.Ytoiblgeheblddaa
open Go.RowKit Go.Extern.Stop Go.Stop Go.Extern
set_option linter.unusedVariables false
/-- whether an error is of number d -/
def isE (l : List (Option Int)) (t : Option Int) (d : Int) : Bool := if noErr l t then d == 0 else t == some d
theorem iface_ne {P : Program} (w : World) {ti ta tb : TypeId} {ms : Array (String × TypeId)} (x y : Value) (hi : P.underlying ti = some (.interface ms)) (hne : ta ≠ tb) : (binOp .eql ti (.iface ta x) (.iface tb y)).run P w = .ok (.bool false) w := by
  simp only [binOp]
  have h : ∀ d : Nat, (Op.equalIn (d + 2) ti (.iface ta x) (.iface tb y)).run P w = .ok false w := fun d => by simp [Op.equalIn, run_underlying hi, hne]
  simp [Op.equal, Op.maxDepth, h 9998]
theorem Try.eqFN (a : Value) (b : Int) (w : World) : (binOp .eql 38 (.iface 61 a) (.iface 43 (.int .i64 b))).run Try.prog w = .ok (.bool false) w :=
  iface_ne w a _ Try.underlying38 (by decide)
set_option maxRecDepth 100000 in
set_option maxHeartbeats 2000000 in
theorem errors_isC (l : List (Option Int)) (t : Option Int) (v : Value) (d : Int) (w : World) (hv : ErrV w l t v) (hn : noErr l t = false) (hs : ∀ b ∈ l, b.isSome = true) : Calls Try.prog 41 #[v, .iface 43 (.int .i64 d), .bool true] w (Ret (.bool (t == some d)) w) := by
  have y1 := Try.eqN
  have y2 := Try.noIsN
  have y3 := Try.noUnwrapN
  have y4 := Try.noUnwrapsN
  have y5 := Try.eqFN
  have y6 := Try.noIsF
  have y7 := Try.hasUnwrapF
  have y8 := Try.methUnwrapF
  have y9 := Try.nilUnwrapF
  go_enter Try.func41, Try.ntmps41
  go_wp2_with fail
  go_loopg [0] l.length (fun k x wr => ∃ l', l'.length = k ∧ ErrV wr l' t x ∧ noErr l' t = false ∧ (∀ b ∈ l', b.isSome = true) ∧ Below w.heap.size w wr)
  case atStart => exact ⟨l, rfl, hv, hn, hs, Below.refl _ _⟩
  case round =>
    obtain ⟨l', hk, hx, hne, hss, hbr⟩ := hrel
    match l', hx with
    | [], hx =>
      cases t with
      | none => simp [noErr] at hne
      | some c =>
        obtain rfl : u0 = _ := hx
        by_cases h : c = d
        · have h' : (c == d) = true := by simpa using h
          have h2 : (some c == some d) = true := by simpa using h
          have HH := Lib.hid h; clear h
          have HK := Lib.hid hk; clear hk
          go_wp2_with fail
          go_ret
          exact ⟨by rw [h2]; rfl, hbr⟩
        · have h' : (c == d) = false := by simpa using h
          have h2 : (some c == some d) = false := by simpa using h
          have HH := Lib.hid h; clear h
          have HK := Lib.hid hk; clear hk
          go_wp2_with fail
          go_ret
          exact ⟨by rw [h2]; rfl, hbr⟩
    | some b :: r, hx =>
      obtain ⟨blk, v', rfl, hkb, h3⟩ := hx
      have h1 := hkb.cell (i := 1) rfl
      have HK := Lib.hid hk; clear hk
      go_wp2_with fail
      refine (fault_unwrapM _ _ _ h1).mono ?_
      rintro e w' ⟨rfl, rfl⟩
      rcases h3.nil_or with ⟨hz, rfl⟩ | ⟨hz, ty, x, rfl⟩
      · obtain ⟨rfl, rfl⟩ := noErr_true hz
        go_wp2_with fail
        go_ret
        exact ⟨rfl, hbr⟩
      · go_wp2_with fail
        go_roundg (r.length)
        case measure => rw [← HK.out]; simp
        case rel => exact ⟨r, rfl, h3, hz, fun b hb => hss b (List.mem_cons_of_mem _ hb), hbr⟩
    | none :: r, hx => exact absurd (hss none List.mem_cons_self) (by decide)
set_option maxRecDepth 100000 in
set_option maxHeartbeats 2000000 in
theorem errors_IsC (l : List (Option Int)) (t : Option Int) (ty : TypeId) (x : Value) (d : Int) (w : World) (hv : ErrV w l t (.iface ty x)) (hn : noErr l t = false) (hs : ∀ b ∈ l, b.isSome = true) : Calls Try.prog 19 #[.iface ty x, .iface 43 (.int .i64 d)] w (Ret (.bool (t == some d)) w) := by
  have h66 := @run_callFunc_extern Try.prog 40 _ ReflectliteType.typeOf Try.func40 (by kernel_rfl) (by kernel_rfl) (by kernel_rfl) (by kernel_rfl)
  have y1 := Try.typeOfN
  have y2 := Try.methComparable
  have y3 := Try.comparableN
  go_enter Try.func19, Try.ntmps19
  go_wp2_with fail
  refine (errors_isC l t _ d _ hv hn hs).mono ?_
  rintro e w' ⟨rfl, hb⟩
  go_wp2_with fail
  go_ret
  exact ⟨rfl, hb⟩
set_option maxRecDepth 100000 in
set_option maxHeartbeats 2000000 in
theorem fault_Is (l : List (Option Int)) (t : Option Int) (v : Value) (d : Int) (w : World) (hv : ErrV w l t v) (hs : ∀ b ∈ l, b.isSome = true) : Calls Try.prog 9 #[v, .int .i64 d] w (Ret (.bool (isE l t d)) w) := by
  rcases hv.nil_or with ⟨hz, rfl⟩ | ⟨hz, ty, x, rfl⟩
  · have e : isE l t d = (d == 0) := by unfold isE; rw [if_pos hz]
    rw [e]
    go_enter Try.func9, Try.ntmps9
    go_wp2_with fail
    go_ret
    exact ⟨rfl, Below.refl _ _⟩
  · have e : isE l t d = (t == some d) := by unfold isE; rw [if_neg (by rw [hz]; decide)]
    rw [e]
    go_enter Try.func9, Try.ntmps9
    go_wp2_with fail
    refine (errors_IsC l t ty x d _ hv hz hs).mono ?_
    rintro e w' ⟨rfl, hb⟩
    go_wp2_with fail
    go_ret
    exact ⟨rfl, hb⟩
end Go.Proofs.Ytoiblgeheblddaa

