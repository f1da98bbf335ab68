/- What package span's iterator 'each' hands over: the spans of the children from the last one to the first, for any span and any keys; and that Child and Split return the plain functions below. -/
import Derived.RangeFuncNested
import Derived.RangeFuncBound
import Derived.RangeFuncCalls
import Derived.RangeFuncLeaves
import Derived.Shelf.Abstract
import Derived.Shelf.RegionOpen
import Derived.OwnWalkIn
import Derived.TacticsInMore
import Derived.LoopNIn
import Derived.LoopIn
import Derived.Test.YtoiblgeheblddaaSpan
import Derived.Test.YtoiblgeheblddaaRange
namespace Go.Proofs.Ytoiblgeheblddaa
open Go.RowKit
set_option linter.unusedVariables false
attribute [local go_sem] Oper.semAt_some

/-- the children's spans -/
def partAt (hi : Int) (l : List Int) (i : Nat) : Int × Int := (l[i]?.getD 0, l[i+1]?.getD hi)
/-- what comes as number j: the child's number -/
def qOf {n : Nat} (j : Fin n) : Nat := n - 1 - j.val
def encE (hi : Int) (l : List Int) (j : Fin l.length) : Array Value := #[.int .i64 (qOf j : Int), spanV (partAt hi l (qOf j)).1 (partAt hi l (qOf j)).2]
theorem fin_take_succ {n k : Nat} (h : k < n) : (List.finRange n).take (k + 1) = (List.finRange n).take k ++ [⟨k, h⟩] := by
  rw [List.take_succ_eq_append_getElem (by simpa using h)]; simp
theorem fin_take_all (n : Nat) : (List.finRange n).take n = List.finRange n := List.take_of_length_le (by simp)
theorem fin_take_length {n k : Nat} (h : k ≤ n) : ((List.finRange n).take k).length = k := by simp [h]

set_option maxRecDepth 100000 in
set_option maxHeartbeats 2000000 in
theorem each1_in (l Bs Bk : Nat) (p : Nat → Prop) (hi : Int) (b off cap : Nat) (zs : List Int) (hlen : zs.length ≤ 9223372036854775807) (hb' : zs.length = 0 ∨ p b) (hBk : p Bk) (J Jx : List (Fin zs.length) → World → Prop)
    (hY : ∀ pre x W, J pre W → pre.length < zs.length → YieldAt Fence.wide 2 Try.prog l (encE hi zs x) W fun e W' =>
      (e = .returned (.bool true) ∧ J (pre ++ [x]) W' ∧ Keeps p W W') ∨ (e = .returned (.bool false) ∧ Jx (pre ++ [x]) W'))
    (W : World) (hc1 : W.cell? ⟨Bs, 1, none⟩ = some (.int .i64 hi)) (hck : W.cell? ⟨Bk, 0, none⟩ = some (.slice (some ⟨b, off, none⟩) zs.length cap))
    (hc : ∀ j x, zs[j]? = some x → W.cell? ⟨b, off + j, none⟩ = some (.int .i64 x)) (h0 : J [] W) :
    CallsIn Fence.wide 3 Try.prog 72 #[.func (.yield l) #[] #[], .pointer (some ⟨Bs, 0, none⟩), .pointer (some ⟨Bk, 0, none⟩)] W fun e W' => (∃ v, e = .returned v) ∧
      ((∃ ys, ys = List.finRange zs.length ∧ J ys W') ∨ (∃ pre, (∃ k, k ≤ zs.length ∧ pre = (List.finRange zs.length).take k) ∧ Jx pre W')) := by
  refine callsIn_of_wp Try.func72 rfl trivial ?_ rfl
  simp only [Try.ntmps72, List.size_toArray, List.length_cons, List.length_nil, Nat.reduceAdd, Nat.reduceSub, Array.replicate_succ, Array.replicate_zero, List.push_toArray, List.append_toArray, List.nil_append, List.cons_append]
  gi_wp2
  gi_loopw [4, 5] (fun h i wr => ∃ k : Nat, k ≤ zs.length ∧ i = .int .i64 ((zs.length : Int) - 1 - k) ∧ h = .int .i64 (zs[zs.length - k]?.getD hi) ∧ J ((List.finRange zs.length).take k) wr ∧ Keeps p W wr)
    (fun _ i _ => ((intOf i) + 1).toNat)
  case atStart => exact ⟨0, Nat.zero_le _, by simp, by simp, h0, Keeps.refl _ _⟩
  case round =>
    obtain ⟨k, hk, rfl, rfl, hJs, hnx⟩ := hrel
    generalize hhv : zs[zs.length - k]?.getD hi = hv
    by_cases hlt : k < zs.length
    · have hb : p b := hb'.resolve_left (by omega)
      obtain ⟨x, hx⟩ : ∃ x, zs[zs.length - 1 - k]? = some x := ⟨zs[zs.length - 1 - k], by simp⟩
      have hck' := (hnx.cell (a := ⟨Bk, 0, none⟩) hBk).trans hck
      have hcx := (hnx.cell (a := ⟨b, off + (zs.length - 1 - k), none⟩) hb).trans (hc _ _ hx)
      obtain ⟨q, hq⟩ : ∃ q : Nat, q = zs.length - 1 - k := ⟨_, rfl⟩
      have hqi : ((zs.length : Int) - 1 - k) = (q : Int) := by omega
      have hql : q < zs.length := by omega
      obtain ⟨fn, tmps, assign, body, hy, hR⟩ := hY _ ⟨k, hlt⟩ wr hJs (by rw [fin_take_length hk]; exact hlt)
      have hE : encE hi zs ⟨k, hlt⟩ = #[.int .i64 (q : Int), .agg #[.int .i64 x, .int .i64 hv]] := by
        have e0 : zs[q]? = some x := by rw [hq]; exact hx
        have e1 : q + 1 = zs.length - k := by omega
        have e2 : qOf (⟨k, hlt⟩ : Fin zs.length) = q := hq.symm
        simp only [encE, partAt, spanV, e2, e0, e1, hhv, Option.getD_some]
      rw [hE] at hy
      rw [← hq] at hcx
      rw [hqi]
      have HQ := Lib.hid hq; clear hq
      have HI := Lib.hid hqi; clear hqi
      have HX := Lib.hid hx; clear hx
      have HV := Lib.hid hhv; clear hhv
      have HE := Lib.hid hE; clear hE
      gi_wp2
      refine hR.mono ?_
      rintro e W3 (⟨rfl, hJ3, hk3⟩ | ⟨rfl, hJx3⟩)
      · have hck3 := (hk3.cell (a := ⟨Bk, 0, none⟩) hBk).trans hck'
        have hcx3 := (hk3.cell (a := ⟨b, off + q, none⟩) hb).trans hcx
        gi_wp2
        go_roundw
        case rel =>
          refine ⟨k + 1, by omega, ?_, ?_, by rw [fin_take_succ hlt]; exact hJ3, hnx.trans hk3⟩
          · exact congrArg (Value.int .i64) (by have := HI.out; omega)
          · have h1 : zs.length - (k + 1) = q := by have := HQ.out; omega
            have := HX.out
            rw [← HQ.out] at this
            rw [h1, this]; rfl
        case measure => simp [intOf]
      · gi_wp2
        refine bodyPost_ret (results_none rfl _ _ _) rfl ?_
        exact ⟨⟨_, rfl⟩, .inr ⟨_, ⟨k + 1, by omega, by rw [fin_take_succ hlt]⟩, hJx3⟩⟩
    · obtain rfl : k = zs.length := by omega
      have hneg : ((zs.length : Int) - 1 - zs.length) = -1 := by omega
      rw [hneg]
      clear hneg hhv
      rw [fin_take_all] at hJs
      have HJ := Lib.hid hJs; clear hJs
      gi_wp2
      go_end0
      exact ⟨⟨_, rfl⟩, .inl ⟨_, rfl, HJ.out⟩⟩

set_option maxRecDepth 100000 in
set_option maxHeartbeats 1000000 in
theorem each1_nil_in {α : Type} (l Bs Bk : Nat) (hi : Int) (J : List α → World → Prop) (W : World) (hc1 : W.cell? ⟨Bs, 1, none⟩ = some (.int .i64 hi)) {a0 : Option Addr} {c0 : Nat} (hck : W.cell? ⟨Bk, 0, none⟩ = some (.slice a0 0 c0)) (h0 : J [] W) :
    CallsIn Fence.wide 3 Try.prog 72 #[.func (.yield l) #[] #[], .pointer (some ⟨Bs, 0, none⟩), .pointer (some ⟨Bk, 0, none⟩)] W fun e W' => (∃ v, e = .returned v) ∧ J [] W' := by
  refine callsIn_of_wp Try.func72 rfl trivial ?_ rfl
  simp only [Try.ntmps72, List.size_toArray, List.length_cons, List.length_nil, Nat.reduceAdd, Nat.reduceSub, Array.replicate_succ, Array.replicate_zero, List.push_toArray, List.append_toArray, List.nil_append, List.cons_append]
  gi_wp2
  gi_loopw [4, 5] (fun _ i wr => i = .int .i64 (-1) ∧ J [] wr) (fun _ _ _ => 0)
  case atStart => exact ⟨rfl, h0⟩
  case round =>
    obtain ⟨rfl, hJs⟩ := hrel
    gi_wp2
    go_end0
    exact ⟨⟨_, rfl⟩, hJs⟩

theorem each_stops (Bs Bk : Nat) (p : Nat → Prop) (hi : Int) (v : Value) (zs : List Int) (w : World) (hp : ∀ b, p b → b < w.heap.size) (hk : p Bk) (hs : p Bs) (hlen : zs.length ≤ 9223372036854775807) (hv : Ints w v zs)
    (hvp : zs.length ≠ 0 → ∀ b off n cap, v = .slice (some ⟨b, off, none⟩) n cap → p b)
    (hc1 : w.cell? ⟨Bs, 1, none⟩ = some (.int .i64 hi)) (hck : w.cell? ⟨Bk, 0, none⟩ = some v) :
    SeqStopsK Fence.wide 3 Try.prog 72 #[.pointer (some ⟨Bs, 0, none⟩), .pointer (some ⟨Bk, 0, none⟩)] (encE hi zs) (Keeps p)
      (fun ys => ys = List.finRange zs.length) (fun pre => ∃ k, k ≤ zs.length ∧ pre = (List.finRange zs.length).take k) zs.length w := fun l J Jx W hW _ _ hY h0 => by
  have hc1' := getC hW hc1
  have hck' := getC hW hck
  rcases hv with ⟨a0, c0, rfl, h1, h2⟩ | ⟨b, off, cap, rfl, hcap, hmax, hcs⟩
  · obtain rfl : zs = [] := by simpa using h2
    exact (each1_nil_in l Bs Bk hi J W hc1' hck' h0).mono fun e W' ⟨he, hj⟩ => ⟨he, .inl ⟨_, rfl, hj⟩⟩
  · refine each1_in l Bs Bk p hi b off cap zs hlen ?_ hk J Jx hY W hc1' hck' (fun j x hj => getC hW (hcs j _ (by simp [hj]))) h0
    by_cases h : zs.length = 0
    · exact .inl h
    · exact .inr (hvp h _ _ _ _ rfl)

set_option maxHeartbeats 400000 in
theorem span_each (lo hi : Int) (a : Option Addr) (n c : Nat) (w : World) : Calls Try.prog 52 #[spanV lo hi, .slice a n c] w fun e w' =>
    e = .returned (.func (.func 72) #[] #[.pointer (some ⟨w.heap.size, 0, none⟩), .pointer (some ⟨w.heap.size + 1, 0, none⟩)]) ∧
    w' = (w.alloc (.cells #[.int .i64 lo, .int .i64 hi] 56)).alloc (.cells #[.slice a n c] 27) := by
  unfold spanV
  go_enter Try.func52, Try.ntmps52
  go_wp2
  go_ret
  exact ⟨rfl, rfl⟩
end Go.Proofs.Ytoiblgeheblddaa

