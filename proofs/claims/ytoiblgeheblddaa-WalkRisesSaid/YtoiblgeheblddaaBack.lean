/- What the iterator of slices.Backward hands over: the elements of a slice of ints from the last one to the first. -/
import Derived.RangeFuncNested
import Derived.RangeFuncBound
import Derived.RangeFuncCalls
import Derived.RangeFuncLeaves
import Derived.Shelf.Abstract
import Derived.Shelf.RegionOpen
import Derived.OwnWalkIn
import Derived.TacticsInMore
import Derived.LoopNIn
import Derived.LoopIn
import Derived.Test.YtoiblgeheblddaaSpanEach
namespace Go.Proofs.Ytoiblgeheblddaa
open Go.RowKit
set_option linter.unusedVariables false
attribute [local go_sem] Oper.semAt_some
def encB (l : List Int) (j : Fin l.length) : Array Value := #[.int .i64 (qOf j : Int), .int .i64 (l[qOf j]?.getD 0)]
set_option maxRecDepth 100000 in
set_option maxHeartbeats 2000000 in
theorem back1_in (l Bk : Nat) (p : Nat → Prop) (b off cap : Nat) (zs : List Int) (hlen : zs.length ≤ 9223372036854775807) (hb' : zs.length = 0 ∨ p b) (hBk : p Bk) (J Jx : List (Fin zs.length) → World → Prop)
    (hY : ∀ pre x W, J pre W → pre.length < zs.length → YieldAt Fence.wide 2 Try.prog l (encB zs x) W fun e W' =>
      (e = .returned (.bool true) ∧ J (pre ++ [x]) W' ∧ Keeps p W W') ∨ (e = .returned (.bool false) ∧ Jx (pre ++ [x]) W'))
    (W : World) (hck : W.cell? ⟨Bk, 0, none⟩ = some (.slice (some ⟨b, off, none⟩) zs.length cap))
    (hc : ∀ j x, zs[j]? = some x → W.cell? ⟨b, off + j, none⟩ = some (.int .i64 x)) (h0 : J [] W) :
    CallsIn Fence.wide 3 Try.prog 68 #[.func (.yield l) #[] #[], .pointer (some ⟨Bk, 0, none⟩)] W fun e W' => (∃ v, e = .returned v) ∧
      ((∃ ys, ys = List.finRange zs.length ∧ J ys W') ∨ (∃ pre, (∃ k, k ≤ zs.length ∧ pre = (List.finRange zs.length).take k) ∧ Jx pre W')) := by
  refine callsIn_of_wp Try.func68 rfl trivial ?_ rfl
  simp only [Try.ntmps68, List.size_toArray, List.length_cons, List.length_nil, Nat.reduceAdd, Nat.reduceSub, Array.replicate_succ, Array.replicate_zero, List.push_toArray, List.append_toArray, List.nil_append, List.cons_append]
  gi_wp2
  gi_loopw [3] (fun i wr => ∃ k : Nat, k ≤ zs.length ∧ i = .int .i64 ((zs.length : Int) - 1 - k) ∧ J ((List.finRange zs.length).take k) wr ∧ Keeps p W wr)
    (fun i _ => ((intOf i) + 1).toNat)
  case atStart => exact ⟨0, Nat.zero_le _, by simp, h0, Keeps.refl _ _⟩
  case round =>
    obtain ⟨k, hk, rfl, hJs, hnx⟩ := hrel
    by_cases hlt : k < zs.length
    · have hb : p b := hb'.resolve_left (by omega)
      obtain ⟨x, hx⟩ : ∃ x, zs[zs.length - 1 - k]? = some x := ⟨zs[zs.length - 1 - k], by simp⟩
      have hck' := (hnx.cell (a := ⟨Bk, 0, none⟩) hBk).trans hck
      have hcx := (hnx.cell (a := ⟨b, off + (zs.length - 1 - k), none⟩) hb).trans (hc _ _ hx)
      obtain ⟨q, hq⟩ : ∃ q : Nat, q = zs.length - 1 - k := ⟨_, rfl⟩
      have hqi : ((zs.length : Int) - 1 - k) = (q : Int) := by omega
      have hql : q < zs.length := by omega
      obtain ⟨fn, tmps, assign, body, hy, hR⟩ := hY _ ⟨k, hlt⟩ wr hJs (by rw [fin_take_length hk]; exact hlt)
      have hE : encB zs ⟨k, hlt⟩ = #[.int .i64 (q : Int), .int .i64 x] := by
        have e0 : zs[q]? = some x := by rw [hq]; exact hx
        have e2 : qOf (⟨k, hlt⟩ : Fin zs.length) = q := hq.symm
        simp only [encB, e2, e0, Option.getD_some]
      rw [hE] at hy
      rw [← hq] at hcx
      rw [hqi]
      have HQ := Lib.hid hq; clear hq
      have HI := Lib.hid hqi; clear hqi
      have HX := Lib.hid hx; clear hx
      have HE := Lib.hid hE; clear hE
      gi_wp2
      refine hR.mono ?_
      rintro e W3 (⟨rfl, hJ3, hk3⟩ | ⟨rfl, hJx3⟩)
      · gi_wp2
        go_roundw
        case rel =>
          refine ⟨k + 1, by omega, ?_, by rw [fin_take_succ hlt]; exact hJ3, hnx.trans hk3⟩
          exact congrArg (Value.int .i64) (by have := HI.out; omega)
        case measure => simp [intOf]
      · gi_wp2
        refine bodyPost_ret (results_none rfl _ _ _) rfl ?_
        exact ⟨⟨_, rfl⟩, .inr ⟨_, ⟨k + 1, by omega, by rw [fin_take_succ hlt]⟩, hJx3⟩⟩
    · obtain rfl : k = zs.length := by omega
      have hneg : ((zs.length : Int) - 1 - zs.length) = -1 := by omega
      rw [hneg]
      clear hneg
      rw [fin_take_all] at hJs
      have HJ := Lib.hid hJs; clear hJs
      gi_wp2
      go_end0
      exact ⟨⟨_, rfl⟩, .inl ⟨_, rfl, HJ.out⟩⟩
set_option maxRecDepth 100000 in
set_option maxHeartbeats 1000000 in
theorem back1_nil_in {α : Type} (l Bk : Nat) (J : List α → World → Prop) (W : World) {a0 : Option Addr} {c0 : Nat} (hck : W.cell? ⟨Bk, 0, none⟩ = some (.slice a0 0 c0)) (h0 : J [] W) :
    CallsIn Fence.wide 3 Try.prog 68 #[.func (.yield l) #[] #[], .pointer (some ⟨Bk, 0, none⟩)] W fun e W' => (∃ v, e = .returned v) ∧ J [] W' := by
  refine callsIn_of_wp Try.func68 rfl trivial ?_ rfl
  simp only [Try.ntmps68, List.size_toArray, List.length_cons, List.length_nil, Nat.reduceAdd, Nat.reduceSub, Array.replicate_succ, Array.replicate_zero, List.push_toArray, List.append_toArray, List.nil_append, List.cons_append]
  gi_wp2
  gi_loopw [3] (fun i wr => i = .int .i64 (-1) ∧ J [] wr) (fun _ _ => 0)
  case atStart => exact ⟨rfl, h0⟩
  case round =>
    obtain ⟨rfl, hJs⟩ := hrel
    gi_wp2
    go_end0
    exact ⟨⟨_, rfl⟩, hJs⟩
theorem back_stops (Bk : Nat) (p : Nat → Prop) (v : Value) (zs : List Int) (w : World) (hp : ∀ b, p b → b < w.heap.size) (hk : p Bk) (hlen : zs.length ≤ 9223372036854775807) (hv : Ints w v zs)
    (hvp : zs.length ≠ 0 → ∀ b off n cap, v = .slice (some ⟨b, off, none⟩) n cap → p b) (hck : w.cell? ⟨Bk, 0, none⟩ = some v) :
    SeqStopsK Fence.wide 3 Try.prog 68 #[.pointer (some ⟨Bk, 0, none⟩)] (encB zs) (Keeps p)
      (fun ys => ys = List.finRange zs.length) (fun pre => ∃ k, k ≤ zs.length ∧ pre = (List.finRange zs.length).take k) zs.length w := fun l J Jx W hW _ _ hY h0 => by
  have hck' := getC hW hck
  rcases hv with ⟨a0, c0, rfl, h1, h2⟩ | ⟨b, off, cap, rfl, hcap, hmax, hcs⟩
  · obtain rfl : zs = [] := by simpa using h2
    exact (back1_nil_in l Bk J W hck' h0).mono fun e W' ⟨he, hj⟩ => ⟨he, .inl ⟨_, rfl, hj⟩⟩
  · refine back1_in l Bk p b off cap zs hlen ?_ hk J Jx hY W hck' (fun j x hj => getC hW (hcs j _ (by simp [hj]))) h0
    by_cases h : zs.length = 0
    · exact .inl h
    · exact .inr (hvp h _ _ _ _ rfl)
end Go.Proofs.Ytoiblgeheblddaa

