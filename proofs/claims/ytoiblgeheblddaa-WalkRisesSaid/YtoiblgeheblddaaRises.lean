/- The statement WalkRises, walked. -/
import Derived.Test.YtoiblgeheblddaaLives14
import Derived.Test.YtoiblgeheblddaaErrIsC
import Derived.Test.YtoiblgeheblddaaErrCode
namespace Go.Proofs.Ytoiblgeheblddaa
open Go.RowKit Go.Extern.Stop Go.Stop Go.Extern
set_option linter.unusedVariables false
attribute [local irreducible] wpList wpAnyH Code.wp Oper.wp

theorem visitF_len (l : List UInt8) (tree fuel : Int) : ∀ (d : Nat) (way : List Int) (no lo hi : Int) (s : WS), way.length + d ≤ 20 → (∀ f ∈ s.fs, f.1.length ≤ 40) → ∀ f ∈ (visitF l tree fuel d way no lo hi s).fs, f.1.length ≤ 40
  | 0, _, _, _, _, s, _, h => h
  | d + 1, way, no, lo, hi, s, hw, h => by
    have hnote : ∀ (c : Int) (s : WS), (∀ f ∈ s.fs, f.1.length ≤ 40) → ∀ f ∈ (noteW way [no] c s).fs, f.1.length ≤ 40 := by
      intro c s h f hf
      simp only [noteW, List.mem_append, List.mem_singleton] at hf
      rcases hf with hf | rfl
      · exact h f hf
      · simp; omega
    unfold visitF
    split
    · exact hnote _ _ h
    · split
      · exact hnote _ _ h
      · split
        · exact h
        · refine loopW_ind (V := visitF l tree fuel d) (l := l) (way := way) (no := no) (hi := hi) (s := { s with looked := s.looked + 1, bs := s.bs ++ [no] }) (fun _ t => ∀ f ∈ t.fs, f.1.length ≤ 40) h (nodC (inB l no)) ?_ fun _ _ _ _ q => q
          intro i t _ _ q
          unfold childW
          split
          · exact visitF_len l tree fuel d (way ++ [no]) _ _ _ t (by simp; omega) q
          · exact hnote _ _ q
theorem scanW_len (l : List UInt8) (root tree fuel : Int) : ∀ f ∈ (scanW l root tree fuel).fs, f.1.length ≤ 40 := visitF_len l tree fuel 17 [] root _ _ ws0 (by decide) (by simp [ws0])
theorem getD_in {α : Type} {l : List α} {d : α} {i : Nat} (h : i < l.length) : l.getD i d ∈ l := by simp [List.getD, h]
theorem pair_get {α : Type} {R : α → α → Prop} {l : List α} {d : α} (h : l.Pairwise R) {i j : Nat} (hij : i < j) (hj : j < l.length) : R (l.getD i d) (l.getD j d) := by
  have := List.pairwise_iff_getElem.1 h i j (by omega) hj hij
  simpa [List.getD, hj, show i < l.length by omega] using this
theorem FltsW.at {w : World} : ∀ {fs : List (List Int × Int)} {vs : List Value}, FltsW w fs vs → ∀ {j : Nat}, j < fs.length → ∃ ty x, vs[j]? = some (.iface ty x) ∧ ErrV w ((fs.getD j ([], 0)).1.map some) (some (fs.getD j ([], 0)).2) (.iface ty x)
  | f :: r, v :: q, h, 0, _ => by
    obtain ⟨ty, x, rfl⟩ := h.1.iface
    exact ⟨ty, x, rfl, h.1⟩
  | f :: r, v :: q, h, j + 1, hj => by
    obtain ⟨ty, x, h1, h2⟩ := h.2.at (j := j) (by simpa using hj)
    exact ⟨ty, x, by simpa using h1, by simpa using h2⟩
  | [], _, _, j, hj => absurd hj (by simp)
  | _ :: _, [], h, _, _ => h.elim
theorem Sl.elem1 {w : World} {b : Option Addr} {n c : Nat} {xs : List Value} (h : Sl w (.slice b n c) n xs) {j : Nat} {x : Value} (hj : xs[j]? = some x) : b.isSome = true ∧ w.cell? (elemAddr b (j * 1)) = some x := by rw [Nat.mul_one]; exact Sl.elem h hj
theorem blocksOf_some (l : List Int) : blocksOf (l.map some) = l := by unfold blocksOf; simp [List.filterMap_map]
theorem fault_BlocksS (l : List Int) (c : Int) (v : Value) (w : World) (hlen : l.length ≤ 1000000) (hv : ErrV w (l.map some) (some c) v) :
    Calls Try.prog 8 #[v] w (RetS (fun w' r => ∃ p cp, r = .slice p l.length cp ∧ w'.ownsRow w.heap.size 3 1 (.slice p l.length cp) l.length (l.map (Value.int .i64))) w) := by
  refine (fault_Blocks (some c) (l.map some) v w (by simpa using hlen) hv).mono ?_
  rw [blocksOf_some]
  rintro e W ⟨r, rfl, hb, ho⟩
  obtain ⟨p, cp, rfl⟩ := (own_sl ho).slice
  exact ⟨_, rfl, hb, p, cp, rfl, ho⟩
theorem fault_IsS (l : List Int) (c d : Int) (v : Value) (w : World) (hv : ErrV w (l.map some) (some c) v) : Calls Try.prog 9 #[v, .int .i64 d] w (Ret (.bool (c == d)) w) := by
  have h := fault_Is (l.map some) (some c) v d w hv (by simp)
  have e : isE (l.map some) (some c) d = (c == d) := by
    unfold isE
    rw [if_neg (by simp [noErr])]
    rfl
  rwa [e] at h
theorem block_NodeOk (B b : Nat) (p : Option Addr) (n c : Nat) (l : List UInt8) (no tree : Int) (w : World) (hI : ImgR B b p n c l w) (h0 : nodeErr l no tree = 0) :
    Calls Try.prog 7 #[.pointer (some ⟨b, 0, none⟩), .int .i64 no, .int .i64 tree] w (fun e w' => ∃ kp kc vp vc, e = .returned (.tuple #[.agg #[.int .i64 (nodT (inB l no)), .bool (nodL (inB l no)), .slice kp (nodC (inB l no)) kc, .slice vp (nodC (inB l no)) vc], .nilIface]) ∧ Below w.heap.size w w' ∧
      w'.ownsRow w.heap.size 3 1 (.slice kp (nodC (inB l no)) kc) (nodC (inB l no)) ((nodK l no).map (Value.int .i64)) ∧ w'.ownsRow w.heap.size 9 1 (.slice vp (nodC (inB l no)) vc) (nodC (inB l no)) ((nodV l no).map sv)) := by
  refine (block_Node B b p n c l no tree w hI).mono ?_
  rintro e W (⟨h, _⟩ | ⟨_, h⟩)
  · exact absurd h0 h
  · exact h
def ScanT (t : WS) (w : World) (e : Ending) (w' : World) : Prop := ∃ pe pb pf ce cb cf fv, e = .returned (.agg (walkC t pe pb pf ce cb cf).toArray) ∧ Below w.heap.size w w' ∧ WalkV w.heap.size t pe pb pf ce cb cf fv w'
theorem walk_ScanAs (Bi b : Nat) (pi : Option Addr) (ni ci : Nat) (l : List UInt8) (root tree fuel : Int) (t : WS) (w : World) (hfu : fuel ≤ 1000) (hI : ImgR Bi b pi ni ci l w) (ht : scanW l root tree fuel = t) :
    Calls Try.prog 6 #[.pointer (some ⟨b, 0, none⟩), .int .i64 root, .int .i64 tree, .int .i64 fuel] w (ScanT t w) := by
  subst ht; exact walk_Scan Bi b pi ni ci l root tree fuel w hfu hI
theorem and255 (x : Int) : ∃ q : Nat, IntKind.i64.wrap (↑(BitVec.ofInt 64 x &&& BitVec.ofInt 64 255).toNat : Int) = (q : Int) ∧ q ≤ 255 := by
  have h : (BitVec.ofInt 64 x &&& BitVec.ofInt 64 255).toNat ≤ 255 := by
    rw [BitVec.toNat_and]
    exact Nat.le_trans Nat.and_le_right (by decide)
  exact ⟨_, IntWalk.i64_in _ (by omega), h⟩
def anyD (fs : List (List Int × Int)) (j : Nat) : Bool := (fs.take j).any (·.2 == 12)
theorem anyD_succ {fs : List (List Int × Int)} {j : Nat} (h : j < fs.length) : anyD fs (j + 1) = (anyD fs j || (fs.getD j ([], 0)).2 == 12) := by
  unfold anyD
  rw [List.take_succ_eq_append_getElem h, List.any_append]
  simp [List.getD, h]
theorem anyD_all {fs : List (List Int × Int)} {j : Nat} (h : fs.length ≤ j) : anyD fs j = true ↔ ∃ f ∈ fs, f.2 = 12 := by
  unfold anyD
  rw [List.take_of_length_le h]
  simp
theorem scan_dry {l : List UInt8} {root tree fuel : Int} {j : Nat} (hj : (scanW l root tree fuel).fs.length ≤ j) : (scanW l root tree fuel).dry = anyD (scanW l root tree fuel).fs j := by
  obtain ⟨es, fs, h⟩ := scanW_went l root tree fuel
  have hf : (scanW l root tree fuel).fs = fs := by rw [h.fsE]; rfl
  have := h.dry
  rw [hf] at hj ⊢
  cases q : anyD fs j with
  | true => rw [this]; exact .inr ((anyD_all hj).1 q)
  | false =>
    cases q2 : (scanW l root tree fuel).dry with
    | false => rfl
    | true =>
      rcases this.1 q2 with q3 | q3
      · cases q3
      · rw [(anyD_all hj).2 q3] at q; cases q
theorem scan_full {l : List UInt8} {root tree fuel : Int} (h : (scanW l root tree fuel).dry = true) : (scanW l root tree fuel).looked = fuel.toNat := by
  have h2 := scanW_looked l root tree fuel
  obtain ⟨es, fs, hw⟩ := scanW_went l root tree fuel
  rcases hw.fuelE h with q | q
  · cases q
  · omega
theorem scan_more {l : List UInt8} {root tree fuel : Int} {q : Nat} (h : (scanW l root tree fuel).dry = false) : scanW l root tree (fuel + q) = scanW l root tree fuel :=
  visitF_more l tree fuel (fuel + q) (by omega) 17 [] root _ _ ws0 h
/-- what the law asks of a scan -/
theorem scan_law (l : List UInt8) (root tree fuel : Int) : (scanW l root tree fuel).looked ≤ fuel.toNat ∧ (scanW l root tree fuel).bs.length ≤ (scanW l root tree fuel).looked ∧ (∀ x ∈ (scanW l root tree fuel).es, InBlk l tree x) ∧
    (scanW l root tree fuel).es.Pairwise (fun x y => x.1 < y.1) ∧ ∀ f ∈ (scanW l root tree fuel).fs, f.1 ≠ [] ∧ f.1.getD 0 0 = root := by
  obtain ⟨es, fs, h⟩ := scanW_went l root tree fuel
  have h1 : (scanW l root tree fuel).es = es := by rw [h.esE]; rfl
  have h2 : (scanW l root tree fuel).fs = fs := by rw [h.fsE]; rfl
  have h3 := h.blks
  refine ⟨scanW_looked _ _ _ _, by simpa [ws0] using h3, fun x hx => h.inb x (h1 ▸ hx), by rw [h1]; exact h.rise.1, fun f hf => ?_⟩
  obtain ⟨q1, q2, _⟩ := h.flt f (h2 ▸ hf)
  refine ⟨q2, ?_⟩
  cases e : f.1 with
  | nil => exact absurd e q2
  | cons a r => rw [e] at q1; simpa using q1
set_option maxRecDepth 100000 in
set_option maxHeartbeats 8000000 in
theorem walkRises_law (a : Option Addr) (c : Nat) (l : List UInt8) (root tree fuel more : Int) (w : World) (h : Bys w (.slice a l.length c) l) (hfr : -9223372036854775808 ≤ fuel) :
    Calls Try.prog 3 #[.slice a l.length c, .int .i64 root, .int .i64 tree, .int .i64 fuel, .int .i64 more] w (Ret (.bool true) w) := by
  have hcap := h.cap rfl
  obtain ⟨f2, hf2, hf3, hf4⟩ : ∃ x, (if (300 : Int) < fuel then (300 : Int) else fuel) = x ∧ x ≤ 300 ∧ -9223372036854775808 ≤ x := ⟨_, rfl, by split <;> omega, by split <;> omega⟩
  obtain ⟨q, hq, hq2⟩ := and255 more
  refine calls_of_wp Try.func3 rfl ?_
  refine g_fr ⟨#[.slice a l.length c, .int .i64 root, .int .i64 tree, .int .i64 fuel, .int .i64 more, undef, undef, undef, undef, undef, undef, undef, undef, undef, undef, undef, undef, undef, undef, undef, undef, undef, undef, undef, undef, undef, undef, undef, undef, undef, undef, undef, undef, undef, undef, undef, undef, undef, undef, undef, undef, undef, undef, undef, undef, undef, undef, undef, undef, undef, undef, undef, undef, undef, undef, undef, undef, undef, undef, undef, undef, undef, undef, undef, undef, undef, undef, undef, undef, undef, undef, undef, undef, undef, undef, undef, undef, undef, undef, undef, undef, undef, undef, undef, undef, undef, undef, undef, undef, undef, undef, undef, undef, undef, undef, undef, undef, undef, undef, undef, undef, undef, undef, undef, undef, undef, undef, undef, undef, undef, undef, undef, undef, undef, undef, undef, undef, undef, undef, undef, undef, undef, undef, undef, undef, undef, undef, undef, undef, undef, undef, undef, undef, undef, undef, undef, undef, undef, undef, undef, undef, undef, undef, undef, undef, undef, undef, undef, undef, undef, undef, undef, undef, undef, undef, undef, undef, undef, undef, undef, undef, undef, undef, undef, undef, undef, undef, undef, undef, undef, undef, undef, undef, undef, undef, undef, undef, undef, undef, undef, undef, undef, undef, undef, undef, undef, undef, undef, undef, undef, undef, undef, undef, undef, undef, undef, undef, undef, undef, undef, undef, undef, undef, undef, undef, undef, undef, undef, undef, undef, undef, undef, undef, undef, undef, undef, undef, undef], []⟩ (by kernel_rfl) ?_
  refine wp_seq ?_
  refine wp_region_lit ?_
  refine g_pv 1 [(10, .bool false)] (by kernel_rfl) ?_
  refine wpList_nil ?_
  refine wp_seq ?_
  refine wp_seq ?_
  refine wp_region_lit ?_
  refine g_pv 3 [(21, .slice a l.length c), (22, .int .i64 (↑l.length : Int)), (23, .bool (decide ((↑l.length : Int) > (12000 : Int))))] (by kernel_rfl) ?_
  refine wpList_nil ?_
  refine wp_cond_split (t := decide ((↑l.length : Int) > (12000 : Int))) (by kernel_rfl) (fun hc1 => ?_) (fun hc1 => ?_)
  · have hc1 := of_decide_eq_true hc1
    refine wp_seq ?_
    refine wp_region_lit ?_
    refine g_op (by kernel_rfl) (op_call (lb := #[]) 4 #[] rfl (by kernel_rfl) (fun _ _ => by kernel_rfl) (by kernel_rfl) ((lives14 _).mono ?_))
    rintro e W2 ⟨rfl, hb2⟩
    refine ⟨_, rfl, ?_⟩
    have hB := hb2
    refine g_pv 1 [(10, .bool true)] (by kernel_rfl) ?_
    refine wpList_nil ?_
    refine wp_ret (then_ret ?_)
    exact g_ret (.bool true) (by kernel_rfl) (by kernel_rfl) ⟨rfl, hB⟩
  · have hc1 := of_decide_eq_false hc1
    refine wp_skip ?_
    refine wp_seq ?_
    refine wp_region_lit ?_
    refine g_pv 1 [(25, .int .i64 fuel)] (by kernel_rfl) ?_
    refine g_op (by kernel_rfl) (op_eq (.int .i64 f2) (.int .i64 (if (300 : Int) < fuel then (300 : Int) else fuel)) (by kernel_rfl) (congrArg (Value.int .i64) (hf2)) ?_)
    refine g_pv 1 [(3, .int .i64 f2)] (by kernel_rfl) ?_
    refine wpList_nil ?_
    refine wp_seq ?_
    refine wp_region_lit ?_
    refine g_pv 1 [(27, .slice a l.length c)] (by kernel_rfl) ?_
    have hs8 : w.heap.size ≤ (w).heap.size := (Below.refl w.heap.size _).size
    refine g_op (by kernel_rfl) (op_call (lb := #[]) 5 #[.slice a l.length c] rfl (by kernel_rfl) (fun _ _ => by kernel_rfl) (by kernel_rfl) ((image_OfR a c l.length _ l _ rfl rfl (h.below (Below.refl w.heap.size _)) (by omega) hcap).mono ?_))
    rintro e W3 ⟨_, rfl, hb3, bi, pi, ci, rfl, _, hI⟩
    refine ⟨_, rfl, ?_⟩
    have hB := hb3
    replace hI := hI.mono hs8
    generalize l.take _ = lm at hI
    have hlaw := scan_law lm root tree f2
    have hfew := scanW_few lm root tree f2 (by omega)
    have hlen := scanW_len lm root tree f2
    refine g_pv 1 [(11, .pointer (some ⟨bi, 0, none⟩))] (by kernel_rfl) ?_
    refine wpList_nil ?_
    refine wp_seq ?_
    refine wp_region_lit ?_
    refine g_pv 4 [(29, .pointer (some ⟨bi, 0, none⟩)), (30, .int .i64 root), (31, .int .i64 tree), (32, .int .i64 f2)] (by kernel_rfl) ?_
    have hs4 : w.heap.size ≤ (W3).heap.size := hB.size
    refine g_op (by kernel_rfl) (op_call (lb := #[]) 6 #[.pointer (some ⟨bi, 0, none⟩), .int .i64 root, .int .i64 tree, .int .i64 f2] rfl (by kernel_rfl) (fun _ _ => by kernel_rfl) (by kernel_rfl) ((walk_ScanAs w.heap.size bi pi _ ci lm root tree f2 _ _ (by omega) hI rfl).mono ?_))
    rintro e W4 ⟨pe, pb, pf, ce, cb, cf, fv, rfl, hb4, hW4⟩
    refine ⟨_, rfl, ?_⟩
    replace hB := Bl.next hB hb4
    replace hI := hI.below hb4
    obtain ⟨hEn, _, hFl, hFv⟩ := hW4
    replace hEn := own_mono hEn hs4
    replace hFl := own_mono hFl hs4
    refine g_op (by kernel_rfl) (op_alloc [.slice none 0 0, .slice none 0 0, .int .i64 0, .int .i64 0, .slice none 0 0] rfl (by kernel_rfl) ?_)
    intro b5 W5 n5
    have g5 := n5.ge hB
    replace hB := Bl.next hB n5.below
    replace hI := hI.below n5.below
    replace hEn := own_below hEn n5.below
    replace hFl := own_below hFl n5.below
    replace hFv := hFv.below n5.below
    have k5 := n5.blk
    refine g_op (by kernel_rfl) (op_storev (b := b5) (off := 0) [.slice pe ((scanW lm root tree f2).es.length) ce, .slice pb ((scanW lm root tree f2).bs.length) cb, .int .i64 ((scanW lm root tree f2).deep), .int .i64 (↑(scanW lm root tree f2).looked : Int), .slice pf ((scanW lm root tree f2).fs.length) cf] rfl (by kernel_rfl) (by kernel_rfl) (by kernel_rfl) (by first | decide | simp [Value.oneCell']) k5 (by first | decide | simp) ?_)
    intro W6 u6 k6
    change Blk _ _ [.slice pe ((scanW lm root tree f2).es.length) ce, .slice pb ((scanW lm root tree f2).bs.length) cb, .int .i64 ((scanW lm root tree f2).deep), .int .i64 (↑(scanW lm root tree f2).looked : Int), .slice pf ((scanW lm root tree f2).fs.length) cf] _ at k6
    replace hB := u6.below hB g5
    replace hI := hI.only (Only.of_upd (T := [30]) u6 k5 (by decide)) (by decide)
    replace hEn := u6.own2 hEn k5 (by decide)
    replace hFl := u6.own2 hFl k5 (by decide)
    replace hFv := hFv.only (Only.of_upd (T := [30]) u6 k5 (by decide)) (by decide)
    refine wpList_nil ?_
    refine wp_seq ?_
    refine wp_seq ?_
    refine wp_region_lit ?_
    refine g_pv 1 [(34, .pointer (some ⟨b5, 3, none⟩))] (by kernel_rfl) ?_
    refine g_op (by kernel_rfl) (op_load ⟨b5, 3, none⟩ (.int .i64 (↑(scanW lm root tree f2).looked : Int)) rfl (by kernel_rfl) (by kernel_rfl) (k6.cell (i := 3) rfl) ?_)
    refine g_pv 1 [(36, .int .i64 f2)] (by kernel_rfl) ?_
    refine g_op (by kernel_rfl) (op_eq (.int .i64 (↑f2.toNat : Int)) (.int .i64 (if (0 : Int) > f2 then (0 : Int) else f2)) (by kernel_rfl) (congrArg (Value.int .i64) (by split <;> omega)) ?_)
    refine g_pv 2 [(38, .bool (decide ((↑(scanW lm root tree f2).looked : Int) > (↑f2.toNat : Int)))), (39, .bool (decide ((↑(scanW lm root tree f2).looked : Int) > (↑f2.toNat : Int))))] (by kernel_rfl) ?_
    have hc7 : (decide ((↑(scanW lm root tree f2).looked : Int) > (↑f2.toNat : Int)) : Bool) = false := decide_eq_false (by omega)
    refine g_b [38, 39] _ _ hc7 (by kernel_rfl) ?_
    refine g_pv 1 [(40, .pointer (some ⟨b5, 1, none⟩))] (by kernel_rfl) ?_
    refine g_op (by kernel_rfl) (op_load ⟨b5, 1, none⟩ (.slice pb ((scanW lm root tree f2).bs.length) cb) rfl (by kernel_rfl) (by kernel_rfl) (k6.cell (i := 1) rfl) ?_)
    refine g_pv 2 [(42, .int .i64 (↑((scanW lm root tree f2).bs.length) : Int)), (43, .pointer (some ⟨b5, 3, none⟩))] (by kernel_rfl) ?_
    refine g_op (by kernel_rfl) (op_load ⟨b5, 3, none⟩ (.int .i64 (↑(scanW lm root tree f2).looked : Int)) rfl (by kernel_rfl) (by kernel_rfl) (k6.cell (i := 3) rfl) ?_)
    refine g_pv 2 [(45, .bool (decide ((↑((scanW lm root tree f2).bs.length) : Int) > (↑(scanW lm root tree f2).looked : Int)))), (46, .bool (decide ((↑((scanW lm root tree f2).bs.length) : Int) > (↑(scanW lm root tree f2).looked : Int))))] (by kernel_rfl) ?_
    refine wpList_nil ?_
    refine wp_cond_split (t := decide ((↑((scanW lm root tree f2).bs.length) : Int) > (↑(scanW lm root tree f2).looked : Int))) (by kernel_rfl) (fun hh => absurd (hh.symm.trans (show (decide ((↑((scanW lm root tree f2).bs.length) : Int) > (↑(scanW lm root tree f2).looked : Int)) : Bool) = false from decide_eq_false (by omega))) (by decide)) (fun _ => ?_)
    refine wp_skip ?_
    refine wp_seq ?_
    refine wp_seq ?_
    refine wp_region_lit ?_
    refine g_pv 1 [(13, .int .i64 0)] (by kernel_rfl) ?_
    refine wpList_nil ?_
    refine wp_block ?_
    refine g_fr ⟨#[.slice a l.length c, .int .i64 root, .int .i64 tree, .int .i64 f2, .int .i64 more, undef, undef, undef, undef, undef, .bool false, .pointer (some ⟨bi, 0, none⟩), .pointer (some ⟨b5, 0, none⟩), .int .i64 0, undef, undef, undef, undef, undef, undef, undef, .slice a l.length c, .int .i64 (↑l.length : Int), .bool (decide ((↑l.length : Int) > (12000 : Int))), undef, .int .i64 fuel, .int .i64 f2, .slice a l.length c, .pointer (some ⟨bi, 0, none⟩), .pointer (some ⟨bi, 0, none⟩), .int .i64 root, .int .i64 tree, .int .i64 f2, .agg #[.slice pe ((scanW lm root tree f2).es.length) ce, .slice pb ((scanW lm root tree f2).bs.length) cb, .int .i64 ((scanW lm root tree f2).deep), .int .i64 (↑(scanW lm root tree f2).looked : Int), .slice pf ((scanW lm root tree f2).fs.length) cf], .pointer (some ⟨b5, 3, none⟩), .int .i64 (↑(scanW lm root tree f2).looked : Int), .int .i64 f2, .int .i64 (↑f2.toNat : Int), .bool false, .bool false, .pointer (some ⟨b5, 1, none⟩), .slice pb ((scanW lm root tree f2).bs.length) cb, .int .i64 (↑((scanW lm root tree f2).bs.length) : Int), .pointer (some ⟨b5, 3, none⟩), .int .i64 (↑(scanW lm root tree f2).looked : Int), .bool (decide ((↑((scanW lm root tree f2).bs.length) : Int) > (↑(scanW lm root tree f2).looked : Int))), .bool (decide ((↑((scanW lm root tree f2).bs.length) : Int) > (↑(scanW lm root tree f2).looked : Int))), undef, undef, undef, undef, undef, undef, undef, undef, undef, undef, undef, undef, undef, undef, undef, undef, undef, undef, undef, undef, undef, undef, undef, undef, undef, undef, undef, undef, undef, undef, undef, undef, undef, undef, undef, undef, undef, undef, undef, undef, undef, undef, undef, undef, undef, undef, undef, undef, undef, undef, undef, undef, undef, undef, undef, undef, undef, undef, undef, undef, undef, undef, undef, undef, undef, undef, undef, undef, undef, undef, undef, undef, undef, undef, undef, undef, undef, undef, undef, undef, undef, undef, undef, undef, undef, undef, undef, undef, undef, undef, undef, undef, undef, undef, undef, undef, undef, undef, undef, undef, undef, undef, undef, undef, undef, undef, undef, undef, undef, undef, undef, undef, undef, undef, undef, undef, undef, undef, undef, undef, undef, undef, undef, undef, undef, undef, undef, undef, undef, undef, undef, undef, undef, undef, undef, undef, undef, undef, undef, undef, undef, undef, undef, undef, undef, undef, undef, undef, undef, undef, undef, undef, undef, undef, undef, undef, undef, undef, undef, undef, undef, undef, undef, undef, undef, undef, undef, undef, undef, undef, undef], []⟩ (by kernel_rfl) ?_
    refine wp_loop (fun act V => ∃ (i : Nat) (x9 : Nat → Value), act = ⟨#[.slice a l.length c, .int .i64 root, .int .i64 tree, .int .i64 f2, .int .i64 more, undef, undef, undef, undef, undef, (x9 0), .pointer (some ⟨bi, 0, none⟩), .pointer (some ⟨b5, 0, none⟩), .int .i64 (↑i : Int), (x9 1), (x9 2), (x9 3), (x9 4), undef, undef, undef, .slice a l.length c, .int .i64 (↑l.length : Int), .bool (decide ((↑l.length : Int) > (12000 : Int))), undef, .int .i64 fuel, .int .i64 f2, .slice a l.length c, .pointer (some ⟨bi, 0, none⟩), .pointer (some ⟨bi, 0, none⟩), .int .i64 root, .int .i64 tree, .int .i64 f2, .agg #[.slice pe ((scanW lm root tree f2).es.length) ce, .slice pb ((scanW lm root tree f2).bs.length) cb, .int .i64 ((scanW lm root tree f2).deep), .int .i64 (↑(scanW lm root tree f2).looked : Int), .slice pf ((scanW lm root tree f2).fs.length) cf], .pointer (some ⟨b5, 3, none⟩), .int .i64 (↑(scanW lm root tree f2).looked : Int), .int .i64 f2, .int .i64 (↑f2.toNat : Int), .bool false, .bool false, .pointer (some ⟨b5, 1, none⟩), .slice pb ((scanW lm root tree f2).bs.length) cb, .int .i64 (↑((scanW lm root tree f2).bs.length) : Int), .pointer (some ⟨b5, 3, none⟩), .int .i64 (↑(scanW lm root tree f2).looked : Int), .bool (decide ((↑((scanW lm root tree f2).bs.length) : Int) > (↑(scanW lm root tree f2).looked : Int))), .bool (decide ((↑((scanW lm root tree f2).bs.length) : Int) > (↑(scanW lm root tree f2).looked : Int))), (x9 5), (x9 6), (x9 7), (x9 8), (x9 9), (x9 10), (x9 11), (x9 12), (x9 13), (x9 14), (x9 15), (x9 16), (x9 17), (x9 18), (x9 19), (x9 20), (x9 21), (x9 22), (x9 23), (x9 24), (x9 25), (x9 26), (x9 27), (x9 28), (x9 29), (x9 30), (x9 31), (x9 32), (x9 33), (x9 34), (x9 35), (x9 36), (x9 37), (x9 38), (x9 39), (x9 40), (x9 41), (x9 42), (x9 43), (x9 44), (x9 45), (x9 46), (x9 47), (x9 48), (x9 49), (x9 50), (x9 51), (x9 52), (x9 53), (x9 54), (x9 55), (x9 56), (x9 57), (x9 58), (x9 59), (x9 60), (x9 61), (x9 62), (x9 63), (x9 64), (x9 65), (x9 66), (x9 67), (x9 68), (x9 69), (x9 70), (x9 71), (x9 72), (x9 73), (x9 74), (x9 75), (x9 76), (x9 77), (x9 78), (x9 79), (x9 80), (x9 81), undef, undef, undef, undef, undef, undef, undef, undef, undef, undef, undef, undef, undef, undef, undef, undef, undef, undef, undef, undef, undef, undef, undef, undef, undef, undef, undef, undef, undef, undef, undef, undef, undef, undef, undef, undef, undef, undef, undef, undef, undef, undef, undef, undef, undef, undef, undef, undef, undef, undef, undef, undef, undef, undef, undef, undef, undef, undef, undef, undef, undef, undef, undef, undef, undef, undef, undef, undef, undef, undef, undef, undef, undef, undef, undef, undef, undef, undef, undef, undef, undef, undef, undef, undef, undef, undef, undef, undef, undef, undef, undef, undef, undef, undef], []⟩ ∧ Below w.heap.size w V ∧ Blk V b5 ([.slice pe ((scanW lm root tree f2).es.length) ce, .slice pb ((scanW lm root tree f2).bs.length) cb, .int .i64 ((scanW lm root tree f2).deep), .int .i64 (↑(scanW lm root tree f2).looked : Int), .slice pf ((scanW lm root tree f2).fs.length) cf]) 30 ∧ V.ownsRow w.heap.size 33 3 (.slice pe (scanW lm root tree f2).es.length ce) (scanW lm root tree f2).es.length ((scanW lm root tree f2).es.flatMap entC) ∧ V.ownsRow w.heap.size 38 1 (.slice pf (scanW lm root tree f2).fs.length cf) (scanW lm root tree f2).fs.length fv ∧ FltsW V (scanW lm root tree f2).fs fv ∧ ImgR w.heap.size bi pi (min (l.length / 256) 14400 * 256) ci lm V ∧ i ≤ (scanW lm root tree f2).es.length) (fun act V => (scanW lm root tree f2).es.length - ((intOf (act.tmps.getD 13 undef))).toNat) ⟨0, (pk [.bool false, undef, undef, undef, undef, undef, undef, undef, undef, undef, undef, undef, undef, undef, undef, undef, undef, undef, undef, undef, undef, undef, undef, undef, undef, undef, undef, undef, undef, undef, undef, undef, undef, undef, undef, undef, undef, undef, undef, undef, undef, undef, undef, undef, undef, undef, undef, undef, undef, undef, undef, undef, undef, undef, undef, undef, undef, undef, undef, undef, undef, undef, undef, undef, undef, undef, undef, undef, undef, undef, undef, undef, undef, undef, undef, undef, undef, undef, undef, undef, undef, undef]), rfl, hB, k6, hEn, hFl, hFv, hI, Nat.zero_le _⟩ ?_
    rintro _ W9 ⟨i, x9, rfl, hB, k9_b5, hEn, hFl, hFv, hI, hi_⟩
    refine wp_seq ?_
    refine wp_seq ?_
    refine wp_region_lit ?_
    refine g_pv 2 [(47, .int .i64 (↑i : Int)), (48, .pointer (some ⟨b5, 0, none⟩))] (by kernel_rfl) ?_
    refine g_op (by kernel_rfl) (op_load ⟨b5, 0, none⟩ (.slice pe ((scanW lm root tree f2).es.length) ce) rfl (by kernel_rfl) (by kernel_rfl) (k9_b5.cell (i := 0) rfl) ?_)
    refine g_pv 2 [(50, .int .i64 (↑((scanW lm root tree f2).es.length) : Int)), (51, .bool (decide ((↑i : Int) < (↑((scanW lm root tree f2).es.length) : Int))))] (by kernel_rfl) ?_
    refine wpList_nil ?_
    refine wp_cond_split (t := decide ((↑i : Int) < (↑((scanW lm root tree f2).es.length) : Int))) (by kernel_rfl) (fun hc10 => ?_) (fun hc10 => ?_)
    · have hc10 := of_decide_eq_true hc10
      refine wp_skip ?_
      refine wp_seq ?_
      refine wp_block ?_
      refine wp_seq ?_
      refine wp_region_lit ?_
      refine g_pv 1 [(54, .pointer (some ⟨b5, 0, none⟩))] (by kernel_rfl) ?_
      refine g_op (by kernel_rfl) (op_load ⟨b5, 0, none⟩ (.slice pe ((scanW lm root tree f2).es.length) ce) rfl (by kernel_rfl) (by kernel_rfl) (k9_b5.cell (i := 0) rfl) ?_)
      refine g_pv 1 [(56, .int .i64 (↑i : Int))] (by kernel_rfl) ?_
      refine g_op (by kernel_rfl) (op_val (run_indexA (size := 3) (k := i) (b := pe) (n := (scanW lm root tree f2).es.length) (c := ce) (i := (↑i : Int)) (ki := .i64) rfl (by kernel_rfl) (by kernel_rfl) rfl (by omega) (Sts.cell (f := entC) (own_sl hEn) entC_len entD (k := i) (i := 0) (by omega) rfl).1 Try.underlying26 (by kernel_rfl) W9) ?_)
      refine g_op (by kernel_rfl) (op_val (run_loadSt (k := i) entC_len entD _ rfl (by kernel_rfl) (own_sl hEn) (by omega) (by decide) Try.underlying33 rfl (by kernel_rfl)) ?_)
      refine g_op (by kernel_rfl) (op_alloc [.int .i64 0, .string ⟨#[]⟩, .int .i64 0] rfl (by kernel_rfl) ?_)
      intro b11 W11 n11
      have d11_b5 := n11.ne k9_b5
      have g11 := n11.ge hB
      have r11_hEn := own_ne hEn n11
      replace hB := Bl.next hB n11.below
      replace k9_b5 := k9_b5.below n11.below
      replace hI := hI.below n11.below
      replace hEn := own_below hEn n11.below
      replace hFl := own_below hFl n11.below
      replace hFv := hFv.below n11.below
      have k11 := n11.blk
      refine g_op (by kernel_rfl) (op_storev (b := b11) (off := 0) [.int .i64 (((scanW lm root tree f2).es.getD i entD).1), .string ⟨(((scanW lm root tree f2).es.getD i entD).2.1).toArray⟩, .int .i64 (((scanW lm root tree f2).es.getD i entD).2.2)] rfl (by kernel_rfl) (by kernel_rfl) (by kernel_rfl) (by first | decide | simp [Value.oneCell']) k11 (by first | decide | simp) ?_)
      intro W12 u12 k12
      change Blk _ _ [.int .i64 (((scanW lm root tree f2).es.getD i entD).1), .string ⟨(((scanW lm root tree f2).es.getD i entD).2.1).toArray⟩, .int .i64 (((scanW lm root tree f2).es.getD i entD).2.2)] _ at k12
      replace hB := u12.below hB g11
      replace k9_b5 := u12.blk k9_b5 (Ne.symm (Ne.symm d11_b5))
      replace hI := hI.only (Only.of_upd (T := [33]) u12 k11 (by decide)) (by decide)
      replace hEn := u12.own3 hEn r11_hEn
      replace hFl := u12.own2 hFl k11 (by decide)
      replace hFv := hFv.only (Only.of_upd (T := [33]) u12 k11 (by decide)) (by decide)
      refine wpList_nil ?_
      refine wp_seq ?_
      refine wp_region_lit ?_
      refine g_pv 2 [(60, .pointer (some ⟨bi, 0, none⟩)), (61, .pointer (some ⟨b11, 2, none⟩))] (by kernel_rfl) ?_
      refine g_op (by kernel_rfl) (op_load ⟨b11, 2, none⟩ (.int .i64 (((scanW lm root tree f2).es.getD i entD).2.2)) rfl (by kernel_rfl) (by kernel_rfl) (k12.cell (i := 2) rfl) ?_)
      refine g_pv 1 [(63, .int .i64 tree)] (by kernel_rfl) ?_
      obtain ⟨hn0, hlf, k0, hk0, hkk, hvv, hkm⟩ := hlaw.2.2.1 ((scanW lm root tree f2).es.getD i entD) (getD_in (by omega))
      have hkl : (nodK lm ((scanW lm root tree f2).es.getD i entD).2.2).length = (nodC (inB lm ((scanW lm root tree f2).es.getD i entD).2.2)) := by simp [nodK, keysI]
      have hvl : (nodV lm ((scanW lm root tree f2).es.getD i entD).2.2).length = (nodC (inB lm ((scanW lm root tree f2).es.getD i entD).2.2)) := by simp [nodV, valsL]
      have hnc : (nodC (inB lm ((scanW lm root tree f2).es.getD i entD).2.2)) < 65536 := rawN_lt _ 2 2
      have hs13 : w.heap.size ≤ (W12).heap.size := hB.size
      refine g_op (by kernel_rfl) (op_call (lb := #[]) 7 #[.pointer (some ⟨bi, 0, none⟩), .int .i64 (((scanW lm root tree f2).es.getD i entD).2.2), .int .i64 tree] rfl (by kernel_rfl) (fun _ _ => by kernel_rfl) (by kernel_rfl) ((block_NodeOk w.heap.size bi pi _ ci lm ((scanW lm root tree f2).es.getD i entD).2.2 tree _ hI hn0).mono ?_))
      rintro e W13 ⟨kp, kc, vp, vc, rfl, hb13, hk, hv⟩
      refine ⟨_, rfl, ?_⟩
      replace hB := Bl.next hB hb13
      replace k9_b5 := k9_b5.below hb13
      replace k12 := k12.below hb13
      replace hI := hI.below hb13
      replace hEn := own_below hEn hb13
      replace hFl := own_below hFl hb13
      replace hFv := hFv.below hb13
      replace hk := own_mono hk hs13
      replace hv := own_mono hv hs13
      refine g_pv 3 [(59, .tuple #[.agg #[.int .i64 (nodT (inB lm ((scanW lm root tree f2).es.getD i entD).2.2)), .bool (nodL (inB lm ((scanW lm root tree f2).es.getD i entD).2.2)), .slice kp (nodC (inB lm ((scanW lm root tree f2).es.getD i entD).2.2)) kc, .slice vp (nodC (inB lm ((scanW lm root tree f2).es.getD i entD).2.2)) vc], .nilIface]), (65, .agg #[.int .i64 (nodT (inB lm ((scanW lm root tree f2).es.getD i entD).2.2)), .bool (nodL (inB lm ((scanW lm root tree f2).es.getD i entD).2.2)), .slice kp (nodC (inB lm ((scanW lm root tree f2).es.getD i entD).2.2)) kc, .slice vp (nodC (inB lm ((scanW lm root tree f2).es.getD i entD).2.2)) vc]), (66, .nilIface)] (by kernel_rfl) ?_
      refine g_op (by kernel_rfl) (op_alloc [.int .i64 0, .bool false, .slice none 0 0, .slice none 0 0] rfl (by kernel_rfl) ?_)
      intro b14 W14 n14
      have d14_b5 := n14.ne k9_b5
      have d14_b11 := n14.ne k12
      have g14 := n14.ge hB
      replace hB := Bl.next hB n14.below
      replace k9_b5 := k9_b5.below n14.below
      replace k12 := k12.below n14.below
      replace hI := hI.below n14.below
      replace hEn := own_below hEn n14.below
      replace hFl := own_below hFl n14.below
      replace hFv := hFv.below n14.below
      replace hk := own_below hk n14.below
      replace hv := own_below hv n14.below
      have k14 := n14.blk
      refine g_op (by kernel_rfl) (op_storev (b := b14) (off := 0) [.int .i64 (nodT (inB lm ((scanW lm root tree f2).es.getD i entD).2.2)), .bool (nodL (inB lm ((scanW lm root tree f2).es.getD i entD).2.2)), .slice kp (nodC (inB lm ((scanW lm root tree f2).es.getD i entD).2.2)) kc, .slice vp (nodC (inB lm ((scanW lm root tree f2).es.getD i entD).2.2)) vc] rfl (by kernel_rfl) (by kernel_rfl) (by kernel_rfl) (by first | decide | simp [Value.oneCell']) k14 (by first | decide | simp) ?_)
      intro W15 u15 k15
      change Blk _ _ [.int .i64 (nodT (inB lm ((scanW lm root tree f2).es.getD i entD).2.2)), .bool (nodL (inB lm ((scanW lm root tree f2).es.getD i entD).2.2)), .slice kp (nodC (inB lm ((scanW lm root tree f2).es.getD i entD).2.2)) kc, .slice vp (nodC (inB lm ((scanW lm root tree f2).es.getD i entD).2.2)) vc] _ at k15
      replace hB := u15.below hB g14
      replace k9_b5 := u15.blk k9_b5 (Ne.symm (Ne.symm d14_b5))
      replace k12 := u15.blk k12 (Ne.symm (Ne.symm d14_b11))
      replace hI := hI.only (Only.of_upd (T := [36]) u15 k14 (by decide)) (by decide)
      replace hEn := u15.own2 hEn k14 (by decide)
      replace hFl := u15.own2 hFl k14 (by decide)
      replace hFv := hFv.only (Only.of_upd (T := [36]) u15 k14 (by decide)) (by decide)
      replace hk := u15.own2 hk k14 (by decide)
      replace hv := u15.own2 hv k14 (by decide)
      refine g_pv 1 [(16, .nilIface)] (by kernel_rfl) ?_
      refine wpList_nil ?_
      refine wp_seq ?_
      refine wp_region_lit ?_
      refine g_pv 1 [(17, .int .i64 0)] (by kernel_rfl) ?_
      refine wpList_nil ?_
      refine wp_seq ?_
      refine wp_block ?_
      refine g_fr ⟨#[.slice a l.length c, .int .i64 root, .int .i64 tree, .int .i64 f2, .int .i64 more, undef, undef, undef, undef, undef, (x9 0), .pointer (some ⟨bi, 0, none⟩), .pointer (some ⟨b5, 0, none⟩), .int .i64 (↑i : Int), .pointer (some ⟨b11, 0, none⟩), .pointer (some ⟨b14, 0, none⟩), .nilIface, .int .i64 0, undef, undef, undef, .slice a l.length c, .int .i64 (↑l.length : Int), .bool (decide ((↑l.length : Int) > (12000 : Int))), undef, .int .i64 fuel, .int .i64 f2, .slice a l.length c, .pointer (some ⟨bi, 0, none⟩), .pointer (some ⟨bi, 0, none⟩), .int .i64 root, .int .i64 tree, .int .i64 f2, .agg #[.slice pe ((scanW lm root tree f2).es.length) ce, .slice pb ((scanW lm root tree f2).bs.length) cb, .int .i64 ((scanW lm root tree f2).deep), .int .i64 (↑(scanW lm root tree f2).looked : Int), .slice pf ((scanW lm root tree f2).fs.length) cf], .pointer (some ⟨b5, 3, none⟩), .int .i64 (↑(scanW lm root tree f2).looked : Int), .int .i64 f2, .int .i64 (↑f2.toNat : Int), .bool false, .bool false, .pointer (some ⟨b5, 1, none⟩), .slice pb ((scanW lm root tree f2).bs.length) cb, .int .i64 (↑((scanW lm root tree f2).bs.length) : Int), .pointer (some ⟨b5, 3, none⟩), .int .i64 (↑(scanW lm root tree f2).looked : Int), .bool (decide ((↑((scanW lm root tree f2).bs.length) : Int) > (↑(scanW lm root tree f2).looked : Int))), .bool (decide ((↑((scanW lm root tree f2).bs.length) : Int) > (↑(scanW lm root tree f2).looked : Int))), .int .i64 (↑i : Int), .pointer (some ⟨b5, 0, none⟩), .slice pe ((scanW lm root tree f2).es.length) ce, .int .i64 (↑((scanW lm root tree f2).es.length) : Int), .bool (decide ((↑i : Int) < (↑((scanW lm root tree f2).es.length) : Int))), (x9 10), (x9 11), .pointer (some ⟨b5, 0, none⟩), .slice pe ((scanW lm root tree f2).es.length) ce, .int .i64 (↑i : Int), .pointer (some (elemAddr pe (i * 3))), .agg #[.int .i64 (((scanW lm root tree f2).es.getD i entD).1), .string ⟨(((scanW lm root tree f2).es.getD i entD).2.1).toArray⟩, .int .i64 (((scanW lm root tree f2).es.getD i entD).2.2)], .tuple #[.agg #[.int .i64 (nodT (inB lm ((scanW lm root tree f2).es.getD i entD).2.2)), .bool (nodL (inB lm ((scanW lm root tree f2).es.getD i entD).2.2)), .slice kp (nodC (inB lm ((scanW lm root tree f2).es.getD i entD).2.2)) kc, .slice vp (nodC (inB lm ((scanW lm root tree f2).es.getD i entD).2.2)) vc], .nilIface], .pointer (some ⟨bi, 0, none⟩), .pointer (some ⟨b11, 2, none⟩), .int .i64 (((scanW lm root tree f2).es.getD i entD).2.2), .int .i64 tree, .tuple #[.agg #[.int .i64 (nodT (inB lm ((scanW lm root tree f2).es.getD i entD).2.2)), .bool (nodL (inB lm ((scanW lm root tree f2).es.getD i entD).2.2)), .slice kp (nodC (inB lm ((scanW lm root tree f2).es.getD i entD).2.2)) kc, .slice vp (nodC (inB lm ((scanW lm root tree f2).es.getD i entD).2.2)) vc], .nilIface], .agg #[.int .i64 (nodT (inB lm ((scanW lm root tree f2).es.getD i entD).2.2)), .bool (nodL (inB lm ((scanW lm root tree f2).es.getD i entD).2.2)), .slice kp (nodC (inB lm ((scanW lm root tree f2).es.getD i entD).2.2)) kc, .slice vp (nodC (inB lm ((scanW lm root tree f2).es.getD i entD).2.2)) vc], .nilIface, (x9 25), (x9 26), (x9 27), (x9 28), (x9 29), (x9 30), (x9 31), (x9 32), (x9 33), (x9 34), (x9 35), (x9 36), (x9 37), (x9 38), (x9 39), (x9 40), (x9 41), (x9 42), (x9 43), (x9 44), (x9 45), (x9 46), (x9 47), (x9 48), (x9 49), (x9 50), (x9 51), (x9 52), (x9 53), (x9 54), (x9 55), (x9 56), (x9 57), (x9 58), (x9 59), (x9 60), (x9 61), (x9 62), (x9 63), (x9 64), (x9 65), (x9 66), (x9 67), (x9 68), (x9 69), (x9 70), (x9 71), (x9 72), (x9 73), (x9 74), (x9 75), (x9 76), (x9 77), (x9 78), (x9 79), (x9 80), (x9 81), undef, undef, undef, undef, undef, undef, undef, undef, undef, undef, undef, undef, undef, undef, undef, undef, undef, undef, undef, undef, undef, undef, undef, undef, undef, undef, undef, undef, undef, undef, undef, undef, undef, undef, undef, undef, undef, undef, undef, undef, undef, undef, undef, undef, undef, undef, undef, undef, undef, undef, undef, undef, undef, undef, undef, undef, undef, undef, undef, undef, undef, undef, undef, undef, undef, undef, undef, undef, undef, undef, undef, undef, undef, undef, undef, undef, undef, undef, undef, undef, undef, undef, undef, undef, undef, undef, undef, undef, undef, undef, undef, undef, undef, undef], []⟩ (by kernel_rfl) ?_
      refine wp_loop (fun act V => ∃ (k : Nat) (x16 : Nat → Value), act = ⟨#[.slice a l.length c, .int .i64 root, .int .i64 tree, .int .i64 f2, .int .i64 more, undef, undef, undef, undef, undef, (x9 0), .pointer (some ⟨bi, 0, none⟩), .pointer (some ⟨b5, 0, none⟩), .int .i64 (↑i : Int), .pointer (some ⟨b11, 0, none⟩), .pointer (some ⟨b14, 0, none⟩), .nilIface, .int .i64 (↑k : Int), undef, undef, undef, .slice a l.length c, .int .i64 (↑l.length : Int), .bool (decide ((↑l.length : Int) > (12000 : Int))), undef, .int .i64 fuel, .int .i64 f2, .slice a l.length c, .pointer (some ⟨bi, 0, none⟩), .pointer (some ⟨bi, 0, none⟩), .int .i64 root, .int .i64 tree, .int .i64 f2, .agg #[.slice pe ((scanW lm root tree f2).es.length) ce, .slice pb ((scanW lm root tree f2).bs.length) cb, .int .i64 ((scanW lm root tree f2).deep), .int .i64 (↑(scanW lm root tree f2).looked : Int), .slice pf ((scanW lm root tree f2).fs.length) cf], .pointer (some ⟨b5, 3, none⟩), .int .i64 (↑(scanW lm root tree f2).looked : Int), .int .i64 f2, .int .i64 (↑f2.toNat : Int), .bool false, .bool false, .pointer (some ⟨b5, 1, none⟩), .slice pb ((scanW lm root tree f2).bs.length) cb, .int .i64 (↑((scanW lm root tree f2).bs.length) : Int), .pointer (some ⟨b5, 3, none⟩), .int .i64 (↑(scanW lm root tree f2).looked : Int), .bool (decide ((↑((scanW lm root tree f2).bs.length) : Int) > (↑(scanW lm root tree f2).looked : Int))), .bool (decide ((↑((scanW lm root tree f2).bs.length) : Int) > (↑(scanW lm root tree f2).looked : Int))), .int .i64 (↑i : Int), .pointer (some ⟨b5, 0, none⟩), .slice pe ((scanW lm root tree f2).es.length) ce, .int .i64 (↑((scanW lm root tree f2).es.length) : Int), .bool (decide ((↑i : Int) < (↑((scanW lm root tree f2).es.length) : Int))), (x9 10), (x9 11), .pointer (some ⟨b5, 0, none⟩), .slice pe ((scanW lm root tree f2).es.length) ce, .int .i64 (↑i : Int), .pointer (some (elemAddr pe (i * 3))), .agg #[.int .i64 (((scanW lm root tree f2).es.getD i entD).1), .string ⟨(((scanW lm root tree f2).es.getD i entD).2.1).toArray⟩, .int .i64 (((scanW lm root tree f2).es.getD i entD).2.2)], .tuple #[.agg #[.int .i64 (nodT (inB lm ((scanW lm root tree f2).es.getD i entD).2.2)), .bool (nodL (inB lm ((scanW lm root tree f2).es.getD i entD).2.2)), .slice kp (nodC (inB lm ((scanW lm root tree f2).es.getD i entD).2.2)) kc, .slice vp (nodC (inB lm ((scanW lm root tree f2).es.getD i entD).2.2)) vc], .nilIface], .pointer (some ⟨bi, 0, none⟩), .pointer (some ⟨b11, 2, none⟩), .int .i64 (((scanW lm root tree f2).es.getD i entD).2.2), .int .i64 tree, .tuple #[.agg #[.int .i64 (nodT (inB lm ((scanW lm root tree f2).es.getD i entD).2.2)), .bool (nodL (inB lm ((scanW lm root tree f2).es.getD i entD).2.2)), .slice kp (nodC (inB lm ((scanW lm root tree f2).es.getD i entD).2.2)) kc, .slice vp (nodC (inB lm ((scanW lm root tree f2).es.getD i entD).2.2)) vc], .nilIface], .agg #[.int .i64 (nodT (inB lm ((scanW lm root tree f2).es.getD i entD).2.2)), .bool (nodL (inB lm ((scanW lm root tree f2).es.getD i entD).2.2)), .slice kp (nodC (inB lm ((scanW lm root tree f2).es.getD i entD).2.2)) kc, .slice vp (nodC (inB lm ((scanW lm root tree f2).es.getD i entD).2.2)) vc], .nilIface, (x16 0), (x16 1), (x16 2), (x16 3), (x16 4), (x16 5), (x16 6), (x16 7), (x16 8), (x16 9), (x16 10), (x16 11), (x16 12), (x16 13), (x16 14), (x16 15), (x16 16), (x9 42), (x9 43), (x9 44), (x9 45), (x9 46), (x9 47), (x9 48), (x9 49), (x9 50), (x9 51), (x9 52), (x9 53), (x9 54), (x9 55), (x9 56), (x9 57), (x9 58), (x9 59), (x9 60), (x9 61), (x9 62), (x9 63), (x9 64), (x9 65), (x9 66), (x9 67), (x9 68), (x9 69), (x9 70), (x9 71), (x9 72), (x9 73), (x9 74), (x9 75), (x9 76), (x9 77), (x9 78), (x9 79), (x9 80), (x9 81), undef, undef, undef, undef, undef, undef, undef, undef, undef, undef, undef, undef, undef, undef, undef, undef, undef, undef, undef, undef, undef, undef, undef, undef, undef, undef, undef, undef, undef, undef, undef, undef, undef, undef, undef, undef, undef, undef, undef, undef, undef, undef, undef, undef, undef, undef, undef, undef, undef, undef, undef, undef, undef, undef, undef, undef, undef, undef, undef, undef, undef, undef, undef, undef, undef, undef, undef, undef, undef, undef, undef, undef, undef, undef, undef, undef, undef, undef, undef, undef, undef, undef, undef, undef, undef, undef, undef, undef, undef, undef, undef, undef, undef, undef], []⟩ ∧ Below w.heap.size w V ∧ Blk V b5 ([.slice pe ((scanW lm root tree f2).es.length) ce, .slice pb ((scanW lm root tree f2).bs.length) cb, .int .i64 ((scanW lm root tree f2).deep), .int .i64 (↑(scanW lm root tree f2).looked : Int), .slice pf ((scanW lm root tree f2).fs.length) cf]) 30 ∧ Blk V b11 ([.int .i64 (((scanW lm root tree f2).es.getD i entD).1), .string ⟨(((scanW lm root tree f2).es.getD i entD).2.1).toArray⟩, .int .i64 (((scanW lm root tree f2).es.getD i entD).2.2)]) 33 ∧ Blk V b14 ([.int .i64 (nodT (inB lm ((scanW lm root tree f2).es.getD i entD).2.2)), .bool (nodL (inB lm ((scanW lm root tree f2).es.getD i entD).2.2)), .slice kp (nodC (inB lm ((scanW lm root tree f2).es.getD i entD).2.2)) kc, .slice vp (nodC (inB lm ((scanW lm root tree f2).es.getD i entD).2.2)) vc]) 36 ∧ V.ownsRow w.heap.size 33 3 (.slice pe (scanW lm root tree f2).es.length ce) (scanW lm root tree f2).es.length ((scanW lm root tree f2).es.flatMap entC) ∧ V.ownsRow w.heap.size 38 1 (.slice pf (scanW lm root tree f2).fs.length cf) (scanW lm root tree f2).fs.length fv ∧ FltsW V (scanW lm root tree f2).fs fv ∧ ImgR w.heap.size bi pi (min (l.length / 256) 14400 * 256) ci lm V ∧ V.ownsRow w.heap.size 3 1 (.slice kp (nodC (inB lm ((scanW lm root tree f2).es.getD i entD).2.2)) kc) (nodC (inB lm ((scanW lm root tree f2).es.getD i entD).2.2)) ((nodK lm ((scanW lm root tree f2).es.getD i entD).2.2).map (Value.int .i64)) ∧ V.ownsRow w.heap.size 9 1 (.slice vp (nodC (inB lm ((scanW lm root tree f2).es.getD i entD).2.2)) vc) (nodC (inB lm ((scanW lm root tree f2).es.getD i entD).2.2)) ((nodV lm ((scanW lm root tree f2).es.getD i entD).2.2).map sv) ∧ k ≤ k0) (fun act V => (nodC (inB lm ((scanW lm root tree f2).es.getD i entD).2.2)) - ((intOf (act.tmps.getD 17 undef))).toNat) ⟨0, (pk [(x9 25), (x9 26), (x9 27), (x9 28), (x9 29), (x9 30), (x9 31), (x9 32), (x9 33), (x9 34), (x9 35), (x9 36), (x9 37), (x9 38), (x9 39), (x9 40), (x9 41)]), rfl, hB, k9_b5, k12, k15, hEn, hFl, hFv, hI, hk, hv, Nat.zero_le _⟩ ?_
      rintro _ W16 ⟨k, x16, rfl, hB, k16_b5, k16_b11, k16_b14, hEn, hFl, hFv, hI, hk, hv, hkk0⟩
      refine wp_seq ?_
      refine wp_seq ?_
      replace hB := Bl.next hB (below_drew W16)
      replace k16_b5 := k16_b5.below (below_drew W16)
      replace k16_b11 := k16_b11.below (below_drew W16)
      replace k16_b14 := k16_b14.below (below_drew W16)
      replace hI := hI.below (below_drew W16)
      replace hEn := own_below hEn (below_drew W16)
      replace hFl := own_below hFl (below_drew W16)
      replace hFv := hFv.below (below_drew W16)
      replace hk := own_below hk (below_drew W16)
      replace hv := own_below hv (below_drew W16)
      refine h_reg (Below (W16.drew).heap.size (W16.drew)) 15 rfl #[false, false, false, false, false, false, false, false, false, false, false, false, false, false, false] rfl (by kernel_rfl) (Below.refl _ _) ?_
      intro hS17
      have hBd19 := hB
      have kd19_b5 := k16_b5
      have kd19_b11 := k16_b11
      have kd19_b14 := k16_b14
      have fd_hEn := hEn
      have fd_hFl := hFl
      have fd_hk := hk
      have fd_hv := hv
      refine h_pv [0, 1] 13 rfl #[true, true, false, false, false, false, false, false, false, false, false, false, false, false, false] [(67, .int .i64 (↑k : Int)), (68, .pointer (some ⟨b14, 2, none⟩))] (by kernel_rfl) (fun _ _ _ _ _ h => h) (by kernel_rfl) hS17 ?_
      refine h_load 2 12 rfl ⟨b14, 2, none⟩ (.slice kp (nodC (inB lm ((scanW lm root tree f2).es.getD i entD).2.2)) kc) rfl (by kernel_rfl) (by kernel_rfl) (by kernel_rfl) (fun _ _ _ _ _ h => h) (by kernel_rfl) rfl (by kernel_rfl) (by kernel_rfl) (fun V hV => ((k16_b14.below hV).cell (i := 2) rfl)) hS17 ?_
      refine h_pv [3, 4, 5] 9 rfl #[true, true, true, true, true, true, false, false, false, false, false, false, false, false, false] [(70, .int .i64 (↑(nodC (inB lm ((scanW lm root tree f2).es.getD i entD).2.2)) : Int)), (71, .bool (decide ((↑k : Int) < (↑(nodC (inB lm ((scanW lm root tree f2).es.getD i entD).2.2)) : Int)))), (72, .bool (decide ((↑k : Int) < (↑(nodC (inB lm ((scanW lm root tree f2).es.getD i entD).2.2)) : Int))))] (by kernel_rfl) (fun _ _ _ _ _ h => h) (by kernel_rfl) hS17 ?_
      have hc20 : (decide ((↑k : Int) < (↑(nodC (inB lm ((scanW lm root tree f2).es.getD i entD).2.2)) : Int)) : Bool) = true := decide_eq_true (by omega)
      refine h_b [71, 72] _ _ hc20 (by kernel_rfl) ?_
      refine h_pv [6] 8 rfl #[true, true, true, true, true, true, true, false, false, false, false, false, false, false, false] [(73, .pointer (some ⟨b14, 2, none⟩))] (by kernel_rfl) (fun _ _ _ _ _ h => h) (by kernel_rfl) hS17 ?_
      refine h_load 7 7 rfl ⟨b14, 2, none⟩ (.slice kp (nodC (inB lm ((scanW lm root tree f2).es.getD i entD).2.2)) kc) rfl (by kernel_rfl) (by kernel_rfl) (by kernel_rfl) (fun _ _ _ _ _ h => h) (by kernel_rfl) rfl (by kernel_rfl) (by kernel_rfl) (fun V hV => ((k16_b14.below hV).cell (i := 2) rfl)) hS17 ?_
      refine h_pv [8] 6 rfl #[true, true, true, true, true, true, true, true, true, false, false, false, false, false, false] [(75, .int .i64 (↑k : Int))] (by kernel_rfl) (fun _ _ _ _ _ h => h) (by kernel_rfl) hS17 ?_
      refine h_val 9 5 rfl (.pointer (some (elemAddr kp (k * 1)))) rfl (by kernel_rfl) (by kernel_rfl) (by kernel_rfl) (fun _ _ _ _ _ h => h) (by kernel_rfl) (fun V hV => run_indexA (size := 1) (k := k) (b := kp) (n := (nodC (inB lm ((scanW lm root tree f2).es.getD i entD).2.2))) (c := kc) (i := (↑k : Int)) (ki := .i64) rfl (by kernel_rfl) (by kernel_rfl) rfl (by omega) (IntsN.elem (own_sl hk) hkl (k := k) (by omega)).1 Try.underlying27 (by kernel_rfl) V) hS17 ?_
      refine h_load 10 4 rfl (elemAddr kp (k * 1)) (.int .i64 ((nodK lm ((scanW lm root tree f2).es.getD i entD).2.2).getD k 0)) rfl (by kernel_rfl) (by kernel_rfl) (by kernel_rfl) (fun _ _ _ _ _ h => h) (by kernel_rfl) rfl (by kernel_rfl) (by kernel_rfl) (fun V hV => (IntsN.elem ((own_sl hk).below hV) hkl (k := k) (by omega)).2) hS17 ?_
      refine h_pv [11] 3 rfl #[true, true, true, true, true, true, true, true, true, true, true, true, false, false, false] [(78, .pointer (some ⟨b11, 0, none⟩))] (by kernel_rfl) (fun _ _ _ _ _ h => h) (by kernel_rfl) hS17 ?_
      refine h_load 12 2 rfl ⟨b11, 0, none⟩ (.int .i64 (((scanW lm root tree f2).es.getD i entD).1)) rfl (by kernel_rfl) (by kernel_rfl) (by kernel_rfl) (fun _ _ _ _ _ h => h) (by kernel_rfl) rfl (by kernel_rfl) (by kernel_rfl) (fun V hV => ((k16_b11.below hV).cell (i := 0) rfl)) hS17 ?_
      refine h_pv [13, 14] 0 rfl #[true, true, true, true, true, true, true, true, true, true, true, true, true, true, true] [(80, .bool (((nodK lm ((scanW lm root tree f2).es.getD i entD).2.2).getD k 0) != ((scanW lm root tree f2).es.getD i entD).1)), (81, .bool (((nodK lm ((scanW lm root tree f2).es.getD i entD).2.2).getD k 0) != ((scanW lm root tree f2).es.getD i entD).1))] (by kernel_rfl) (fun _ _ _ _ _ h => h) (by kernel_rfl) hS17 ?_
      refine h_done _ (by kernel_rfl) ?_
      refine wp_cond_split (t := (((nodK lm ((scanW lm root tree f2).es.getD i entD).2.2).getD k 0) != ((scanW lm root tree f2).es.getD i entD).1)) (by kernel_rfl) (fun hc21 => ?_) (fun hc21 => ?_)
      · have hc21 := ne_of_bne hc21
        refine wp_skip ?_
        refine wp_block ?_
        refine wp_region_lit ?_
        refine g_pv 1 [(82, .int .i64 (↑k : Int))] (by kernel_rfl) ?_
        refine g_op (by kernel_rfl) (op_wrap .i64 ((↑k : Int) + 1) (↑(k + 1) : Int) (by kernel_rfl) ((show IntKind.i64.wrap ((↑k : Int) + 1) = ((↑k : Int) + 1) from by first | exact IntWalk.i64_in _ (by omega) | (simp only [IntKind.wrap]; omega)).trans (by omega)) ?_)
        refine g_pv 1 [(17, .int .i64 (↑(k + 1) : Int))] (by kernel_rfl) ?_
        refine wpList_nil ?_
        refine g_nfr ⟨#[.slice a l.length c, .int .i64 root, .int .i64 tree, .int .i64 f2, .int .i64 more, undef, undef, undef, undef, undef, (x9 0), .pointer (some ⟨bi, 0, none⟩), .pointer (some ⟨b5, 0, none⟩), .int .i64 (↑i : Int), .pointer (some ⟨b11, 0, none⟩), .pointer (some ⟨b14, 0, none⟩), .nilIface, .int .i64 (↑(k + 1) : Int), undef, undef, undef, .slice a l.length c, .int .i64 (↑l.length : Int), .bool (decide ((↑l.length : Int) > (12000 : Int))), undef, .int .i64 fuel, .int .i64 f2, .slice a l.length c, .pointer (some ⟨bi, 0, none⟩), .pointer (some ⟨bi, 0, none⟩), .int .i64 root, .int .i64 tree, .int .i64 f2, .agg #[.slice pe ((scanW lm root tree f2).es.length) ce, .slice pb ((scanW lm root tree f2).bs.length) cb, .int .i64 ((scanW lm root tree f2).deep), .int .i64 (↑(scanW lm root tree f2).looked : Int), .slice pf ((scanW lm root tree f2).fs.length) cf], .pointer (some ⟨b5, 3, none⟩), .int .i64 (↑(scanW lm root tree f2).looked : Int), .int .i64 f2, .int .i64 (↑f2.toNat : Int), .bool false, .bool false, .pointer (some ⟨b5, 1, none⟩), .slice pb ((scanW lm root tree f2).bs.length) cb, .int .i64 (↑((scanW lm root tree f2).bs.length) : Int), .pointer (some ⟨b5, 3, none⟩), .int .i64 (↑(scanW lm root tree f2).looked : Int), .bool (decide ((↑((scanW lm root tree f2).bs.length) : Int) > (↑(scanW lm root tree f2).looked : Int))), .bool (decide ((↑((scanW lm root tree f2).bs.length) : Int) > (↑(scanW lm root tree f2).looked : Int))), .int .i64 (↑i : Int), .pointer (some ⟨b5, 0, none⟩), .slice pe ((scanW lm root tree f2).es.length) ce, .int .i64 (↑((scanW lm root tree f2).es.length) : Int), .bool (decide ((↑i : Int) < (↑((scanW lm root tree f2).es.length) : Int))), (x9 10), (x9 11), .pointer (some ⟨b5, 0, none⟩), .slice pe ((scanW lm root tree f2).es.length) ce, .int .i64 (↑i : Int), .pointer (some (elemAddr pe (i * 3))), .agg #[.int .i64 (((scanW lm root tree f2).es.getD i entD).1), .string ⟨(((scanW lm root tree f2).es.getD i entD).2.1).toArray⟩, .int .i64 (((scanW lm root tree f2).es.getD i entD).2.2)], .tuple #[.agg #[.int .i64 (nodT (inB lm ((scanW lm root tree f2).es.getD i entD).2.2)), .bool (nodL (inB lm ((scanW lm root tree f2).es.getD i entD).2.2)), .slice kp (nodC (inB lm ((scanW lm root tree f2).es.getD i entD).2.2)) kc, .slice vp (nodC (inB lm ((scanW lm root tree f2).es.getD i entD).2.2)) vc], .nilIface], .pointer (some ⟨bi, 0, none⟩), .pointer (some ⟨b11, 2, none⟩), .int .i64 (((scanW lm root tree f2).es.getD i entD).2.2), .int .i64 tree, .tuple #[.agg #[.int .i64 (nodT (inB lm ((scanW lm root tree f2).es.getD i entD).2.2)), .bool (nodL (inB lm ((scanW lm root tree f2).es.getD i entD).2.2)), .slice kp (nodC (inB lm ((scanW lm root tree f2).es.getD i entD).2.2)) kc, .slice vp (nodC (inB lm ((scanW lm root tree f2).es.getD i entD).2.2)) vc], .nilIface], .agg #[.int .i64 (nodT (inB lm ((scanW lm root tree f2).es.getD i entD).2.2)), .bool (nodL (inB lm ((scanW lm root tree f2).es.getD i entD).2.2)), .slice kp (nodC (inB lm ((scanW lm root tree f2).es.getD i entD).2.2)) kc, .slice vp (nodC (inB lm ((scanW lm root tree f2).es.getD i entD).2.2)) vc], .nilIface, .int .i64 (↑k : Int), .pointer (some ⟨b14, 2, none⟩), .slice kp (nodC (inB lm ((scanW lm root tree f2).es.getD i entD).2.2)) kc, .int .i64 (↑(nodC (inB lm ((scanW lm root tree f2).es.getD i entD).2.2)) : Int), .bool true, .bool true, .pointer (some ⟨b14, 2, none⟩), .slice kp (nodC (inB lm ((scanW lm root tree f2).es.getD i entD).2.2)) kc, .int .i64 (↑k : Int), .pointer (some (elemAddr kp (k * 1))), .int .i64 ((nodK lm ((scanW lm root tree f2).es.getD i entD).2.2).getD k 0), .pointer (some ⟨b11, 0, none⟩), .int .i64 (((scanW lm root tree f2).es.getD i entD).1), .bool (((nodK lm ((scanW lm root tree f2).es.getD i entD).2.2).getD k 0) != ((scanW lm root tree f2).es.getD i entD).1), .bool (((nodK lm ((scanW lm root tree f2).es.getD i entD).2.2).getD k 0) != ((scanW lm root tree f2).es.getD i entD).1), .int .i64 (↑k : Int), .int .i64 (↑(k + 1) : Int), (x9 42), (x9 43), (x9 44), (x9 45), (x9 46), (x9 47), (x9 48), (x9 49), (x9 50), (x9 51), (x9 52), (x9 53), (x9 54), (x9 55), (x9 56), (x9 57), (x9 58), (x9 59), (x9 60), (x9 61), (x9 62), (x9 63), (x9 64), (x9 65), (x9 66), (x9 67), (x9 68), (x9 69), (x9 70), (x9 71), (x9 72), (x9 73), (x9 74), (x9 75), (x9 76), (x9 77), (x9 78), (x9 79), (x9 80), (x9 81), undef, undef, undef, undef, undef, undef, undef, undef, undef, undef, undef, undef, undef, undef, undef, undef, undef, undef, undef, undef, undef, undef, undef, undef, undef, undef, undef, undef, undef, undef, undef, undef, undef, undef, undef, undef, undef, undef, undef, undef, undef, undef, undef, undef, undef, undef, undef, undef, undef, undef, undef, undef, undef, undef, undef, undef, undef, undef, undef, undef, undef, undef, undef, undef, undef, undef, undef, undef, undef, undef, undef, undef, undef, undef, undef, undef, undef, undef, undef, undef, undef, undef, undef, undef, undef, undef, undef, undef, undef, undef, undef, undef, undef, undef], []⟩ (by kernel_rfl) ?_
        refine ⟨⟨k + 1, (pk [.int .i64 (↑k : Int), .pointer (some ⟨b14, 2, none⟩), .slice kp (nodC (inB lm ((scanW lm root tree f2).es.getD i entD).2.2)) kc, .int .i64 (↑(nodC (inB lm ((scanW lm root tree f2).es.getD i entD).2.2)) : Int), .bool true, .bool true, .pointer (some ⟨b14, 2, none⟩), .slice kp (nodC (inB lm ((scanW lm root tree f2).es.getD i entD).2.2)) kc, .int .i64 (↑k : Int), .pointer (some (elemAddr kp (k * 1))), .int .i64 ((nodK lm ((scanW lm root tree f2).es.getD i entD).2.2).getD k 0), .pointer (some ⟨b11, 0, none⟩), .int .i64 (((scanW lm root tree f2).es.getD i entD).1), .bool (((nodK lm ((scanW lm root tree f2).es.getD i entD).2.2).getD k 0) != ((scanW lm root tree f2).es.getD i entD).1), .bool (((nodK lm ((scanW lm root tree f2).es.getD i entD).2.2).getD k 0) != ((scanW lm root tree f2).es.getD i entD).1), .int .i64 (↑k : Int), .int .i64 (↑(k + 1) : Int)]), rfl, hB, k16_b5, k16_b11, k16_b14, hEn, hFl, hFv, hI, hk, hv, by have : k ≠ k0 := (fun q => by subst q; contradiction); omega⟩, ?_⟩
        show (nodC (inB lm ((scanW lm root tree f2).es.getD i entD).2.2)) - ((↑(k + 1) : Int)).toNat < (nodC (inB lm ((scanW lm root tree f2).es.getD i entD).2.2)) - ((↑k : Int)).toNat
        omega
      · have hc21 := eq_of_bne_false hc21
        have hke : k = k0 := by
          rcases Nat.lt_or_ge k k0 with q5 | q5
          · exact absurd hc21 (hkm k q5)
          · omega
        refine wp_exit ?_
        refine then_exit ?_
        refine then_exit ?_
        refine inBlock_hit ?_
        refine wp_seq ?_
        replace hB := Bl.next hB (below_drew W16.drew)
        replace k16_b5 := k16_b5.below (below_drew W16.drew)
        replace k16_b11 := k16_b11.below (below_drew W16.drew)
        replace k16_b14 := k16_b14.below (below_drew W16.drew)
        replace hI := hI.below (below_drew W16.drew)
        replace hEn := own_below hEn (below_drew W16.drew)
        replace hFl := own_below hFl (below_drew W16.drew)
        replace hFv := hFv.below (below_drew W16.drew)
        replace hk := own_below hk (below_drew W16.drew)
        replace hv := own_below hv (below_drew W16.drew)
        refine h_reg (Below (W16.drew.drew).heap.size (W16.drew.drew)) 40 rfl #[false, false, false, false, false, false, false, false, false, false, false, false, false, false, false, false, false, false, false, false, false, false, false, false, false, false, false, false, false, false, false, false, false, false, false, false, false, false, false, false] rfl (by kernel_rfl) (Below.refl _ _) ?_
        intro hS22
        have hBd24 := hB
        have kd24_b5 := k16_b5
        have kd24_b11 := k16_b11
        have kd24_b14 := k16_b14
        have fd_hEn := hEn
        have fd_hFl := hFl
        have fd_hk := hk
        have fd_hv := hv
        refine h_pv [0, 1, 2, 3] 36 rfl #[true, true, true, true, false, false, false, false, false, false, false, false, false, false, false, false, false, false, false, false, false, false, false, false, false, false, false, false, false, false, false, false, false, false, false, false, false, false, false, false] [(84, .nilIface), (85, .bool false), (86, .bool false), (87, .pointer (some ⟨b14, 1, none⟩))] (by kernel_rfl) (fun _ _ _ _ _ h => h) (by kernel_rfl) hS22 ?_
        refine h_load 4 35 rfl ⟨b14, 1, none⟩ (.bool (nodL (inB lm ((scanW lm root tree f2).es.getD i entD).2.2))) rfl (by kernel_rfl) (by kernel_rfl) (by kernel_rfl) (fun _ _ _ _ _ h => h) (by kernel_rfl) rfl (by kernel_rfl) (by kernel_rfl) (fun V hV => ((k16_b14.below hV).cell (i := 1) rfl)) hS22 ?_
        refine h_pv [5, 6, 7] 32 rfl #[true, true, true, true, true, true, true, true, false, false, false, false, false, false, false, false, false, false, false, false, false, false, false, false, false, false, false, false, false, false, false, false, false, false, false, false, false, false, false, false] [(89, .bool (!(nodL (inB lm ((scanW lm root tree f2).es.getD i entD).2.2)))), (90, .bool (!(nodL (inB lm ((scanW lm root tree f2).es.getD i entD).2.2)))), (91, .bool (!(nodL (inB lm ((scanW lm root tree f2).es.getD i entD).2.2))))] (by kernel_rfl) (fun _ _ _ _ _ h => h) (by kernel_rfl) hS22 ?_
        have hc25 : (!(nodL (inB lm ((scanW lm root tree f2).es.getD i entD).2.2)) : Bool) = false := by rw [hlf]; rfl
        refine h_b [89, 90, 91] _ _ hc25 (by kernel_rfl) ?_
        refine h_pv [8, 9] 30 rfl #[true, true, true, true, true, true, true, true, true, true, false, false, false, false, false, false, false, false, false, false, false, false, false, false, false, false, false, false, false, false, false, false, false, false, false, false, false, false, false, false] [(92, .int .i64 (↑k : Int)), (93, .pointer (some ⟨b14, 2, none⟩))] (by kernel_rfl) (fun _ _ _ _ _ h => h) (by kernel_rfl) hS22 ?_
        refine h_load 10 29 rfl ⟨b14, 2, none⟩ (.slice kp (nodC (inB lm ((scanW lm root tree f2).es.getD i entD).2.2)) kc) rfl (by kernel_rfl) (by kernel_rfl) (by kernel_rfl) (fun _ _ _ _ _ h => h) (by kernel_rfl) rfl (by kernel_rfl) (by kernel_rfl) (fun V hV => ((k16_b14.below hV).cell (i := 2) rfl)) hS22 ?_
        refine h_pv [11, 12, 13, 14] 25 rfl #[true, true, true, true, true, true, true, true, true, true, true, true, true, true, true, false, false, false, false, false, false, false, false, false, false, false, false, false, false, false, false, false, false, false, false, false, false, false, false, false] [(95, .int .i64 (↑(nodC (inB lm ((scanW lm root tree f2).es.getD i entD).2.2)) : Int)), (96, .bool ((↑k : Int) == (↑(nodC (inB lm ((scanW lm root tree f2).es.getD i entD).2.2)) : Int))), (97, .bool ((↑k : Int) == (↑(nodC (inB lm ((scanW lm root tree f2).es.getD i entD).2.2)) : Int))), (98, .bool ((↑k : Int) == (↑(nodC (inB lm ((scanW lm root tree f2).es.getD i entD).2.2)) : Int)))] (by kernel_rfl) (fun _ _ _ _ _ h => h) (by kernel_rfl) hS22 ?_
        have hc26 : (((↑k : Int) == (↑(nodC (inB lm ((scanW lm root tree f2).es.getD i entD).2.2)) : Int)) : Bool) = false := beq_eq_false_iff_ne.2 (by omega)
        refine h_b [96, 97, 98] _ _ hc26 (by kernel_rfl) ?_
        refine h_pv [15] 24 rfl #[true, true, true, true, true, true, true, true, true, true, true, true, true, true, true, true, false, false, false, false, false, false, false, false, false, false, false, false, false, false, false, false, false, false, false, false, false, false, false, false] [(99, .pointer (some ⟨b14, 3, none⟩))] (by kernel_rfl) (fun _ _ _ _ _ h => h) (by kernel_rfl) hS22 ?_
        refine h_load 16 23 rfl ⟨b14, 3, none⟩ (.slice vp (nodC (inB lm ((scanW lm root tree f2).es.getD i entD).2.2)) vc) rfl (by kernel_rfl) (by kernel_rfl) (by kernel_rfl) (fun _ _ _ _ _ h => h) (by kernel_rfl) rfl (by kernel_rfl) (by kernel_rfl) (fun V hV => ((k16_b14.below hV).cell (i := 3) rfl)) hS22 ?_
        refine h_pv [17] 22 rfl #[true, true, true, true, true, true, true, true, true, true, true, true, true, true, true, true, true, true, false, false, false, false, false, false, false, false, false, false, false, false, false, false, false, false, false, false, false, false, false, false] [(101, .int .i64 (↑k : Int))] (by kernel_rfl) (fun _ _ _ _ _ h => h) (by kernel_rfl) hS22 ?_
        refine h_val 18 21 rfl (.pointer (some (elemAddr vp (k * 1)))) rfl (by kernel_rfl) (by kernel_rfl) (by kernel_rfl) (fun _ _ _ _ _ h => h) (by kernel_rfl) (fun V hV => run_indexA (size := 1) (k := k) (b := vp) (n := (nodC (inB lm ((scanW lm root tree f2).es.getD i entD).2.2))) (c := vc) (i := (↑k : Int)) (ki := .i64) rfl (by kernel_rfl) (by kernel_rfl) rfl (by omega) (Strs.elem (own_sl hv) hvl (k := k) (by omega)).1 Try.underlying34 (by kernel_rfl) V) hS22 ?_
        refine h_load 19 20 rfl (elemAddr vp (k * 1)) (.string ⟨((nodV lm ((scanW lm root tree f2).es.getD i entD).2.2).getD k []).toArray⟩) rfl (by kernel_rfl) (by kernel_rfl) (by kernel_rfl) (fun _ _ _ _ _ h => h) (by kernel_rfl) rfl (by kernel_rfl) (by kernel_rfl) (fun V hV => (Strs.elem ((own_sl hv).below hV) hvl (k := k) (by omega)).2) hS22 ?_
        refine h_pv [20] 19 rfl #[true, true, true, true, true, true, true, true, true, true, true, true, true, true, true, true, true, true, true, true, true, false, false, false, false, false, false, false, false, false, false, false, false, false, false, false, false, false, false, false] [(104, .pointer (some ⟨b11, 1, none⟩))] (by kernel_rfl) (fun _ _ _ _ _ h => h) (by kernel_rfl) hS22 ?_
        refine h_load 21 18 rfl ⟨b11, 1, none⟩ (.string ⟨(((scanW lm root tree f2).es.getD i entD).2.1).toArray⟩) rfl (by kernel_rfl) (by kernel_rfl) (by kernel_rfl) (fun _ _ _ _ _ h => h) (by kernel_rfl) rfl (by kernel_rfl) (by kernel_rfl) (fun V hV => ((k16_b11.below hV).cell (i := 1) rfl)) hS22 ?_
        refine h_pv [22, 23, 24] 15 rfl #[true, true, true, true, true, true, true, true, true, true, true, true, true, true, true, true, true, true, true, true, true, true, true, true, true, false, false, false, false, false, false, false, false, false, false, false, false, false, false, false] [(106, .bool (!((⟨((nodV lm ((scanW lm root tree f2).es.getD i entD).2.2).getD k []).toArray⟩ : ByteArray).toList == (⟨(((scanW lm root tree f2).es.getD i entD).2.1).toArray⟩ : ByteArray).toList))), (107, .bool (!((⟨((nodV lm ((scanW lm root tree f2).es.getD i entD).2.2).getD k []).toArray⟩ : ByteArray).toList == (⟨(((scanW lm root tree f2).es.getD i entD).2.1).toArray⟩ : ByteArray).toList))), (108, .bool (!((⟨((nodV lm ((scanW lm root tree f2).es.getD i entD).2.2).getD k []).toArray⟩ : ByteArray).toList == (⟨(((scanW lm root tree f2).es.getD i entD).2.1).toArray⟩ : ByteArray).toList)))] (by kernel_rfl) (fun _ _ _ _ _ h => h) (by kernel_rfl) hS22 ?_
        have hc27 : (!((⟨((nodV lm ((scanW lm root tree f2).es.getD i entD).2.2).getD k []).toArray⟩ : ByteArray).toList == (⟨(((scanW lm root tree f2).es.getD i entD).2.1).toArray⟩ : ByteArray).toList) : Bool) = false := by rw [hke]; rw [show (nodV lm ((scanW lm root tree f2).es.getD i entD).2.2).getD k0 [] = ((scanW lm root tree f2).es.getD i entD).2.1 from hvv]; simp
        refine h_b [106, 107, 108] _ _ hc27 (by kernel_rfl) ?_
        refine h_pv [25, 26, 27] 12 rfl #[true, true, true, true, true, true, true, true, true, true, true, true, true, true, true, true, true, true, true, true, true, true, true, true, true, true, true, true, false, false, false, false, false, false, false, false, false, false, false, false] [(109, .int .i64 (↑i : Int)), (110, .bool (decide ((↑i : Int) > (0 : Int)))), (111, .bool (decide ((↑i : Int) > (0 : Int))))] (by kernel_rfl) (fun _ _ _ _ _ h => h) (by kernel_rfl) hS22 ?_
        rcases Bool.eq_false_or_eq_true (decide ((↑i : Int) > (0 : Int))) with hc28 | hc28
        · refine h_b [110, 111] _ _ hc28 (by kernel_rfl) ?_
          have hc28 := of_decide_eq_true hc28
          refine h_pv [28] 11 rfl #[true, true, true, true, true, true, true, true, true, true, true, true, true, true, true, true, true, true, true, true, true, true, true, true, true, true, true, true, true, false, false, false, false, false, false, false, false, false, false, false] [(112, .pointer (some ⟨b5, 0, none⟩))] (by kernel_rfl) (fun _ _ _ _ _ h => h) (by kernel_rfl) hS22 ?_
          refine h_load 29 10 rfl ⟨b5, 0, none⟩ (.slice pe ((scanW lm root tree f2).es.length) ce) rfl (by kernel_rfl) (by kernel_rfl) (by kernel_rfl) (fun _ _ _ _ _ h => h) (by kernel_rfl) rfl (by kernel_rfl) (by kernel_rfl) (fun V hV => ((k16_b5.below hV).cell (i := 0) rfl)) hS22 ?_
          refine h_pv [30] 9 rfl #[true, true, true, true, true, true, true, true, true, true, true, true, true, true, true, true, true, true, true, true, true, true, true, true, true, true, true, true, true, true, true, false, false, false, false, false, false, false, false, false] [(114, .int .i64 (↑i : Int))] (by kernel_rfl) (fun _ _ _ _ _ h => h) (by kernel_rfl) hS22 ?_
          refine h_val 31 8 rfl (.int .i64 (↑(i - 1) : Int)) rfl (by kernel_rfl) (by kernel_rfl) (by kernel_rfl) (fun _ _ _ _ _ h => h) (by kernel_rfl) (fun V hV => run_wrap .i64 ((↑i : Int) - 1) (↑(i - 1) : Int) (by kernel_rfl) ((show IntKind.i64.wrap ((↑i : Int) - 1) = ((↑i : Int) - 1) from by first | exact IntWalk.i64_in _ (by omega) | (simp only [IntKind.wrap]; omega)).trans (by omega)) V) hS22 ?_
          refine h_val 32 7 rfl (.pointer (some (elemAddr pe ((i - 1) * 3)))) rfl (by kernel_rfl) (by kernel_rfl) (by kernel_rfl) (fun _ _ _ _ _ h => h) (by kernel_rfl) (fun V hV => run_indexA (size := 3) (k := (i - 1)) (b := pe) (n := (scanW lm root tree f2).es.length) (c := ce) (i := (↑(i - 1) : Int)) (ki := .i64) rfl (by kernel_rfl) (by kernel_rfl) rfl (by omega) (Sts.cell (f := entC) (own_sl hEn) entC_len entD (k := (i - 1)) (i := 0) (by omega) rfl).1 Try.underlying26 (by kernel_rfl) V) hS22 ?_
          refine h_pv [33] 6 rfl #[true, true, true, true, true, true, true, true, true, true, true, true, true, true, true, true, true, true, true, true, true, true, true, true, true, true, true, true, true, true, true, true, true, true, false, false, false, false, false, false] [(117, .pointer (some (elemAddr pe ((i - 1) * 3))))] (by kernel_rfl) (fun _ _ _ _ _ h => h) (by kernel_rfl) hS22 ?_
          refine h_load 34 5 rfl (elemAddr pe ((i - 1) * 3)) (.int .i64 (((scanW lm root tree f2).es.getD (i - 1) entD).1)) rfl (by kernel_rfl) (by kernel_rfl) (by kernel_rfl) (fun _ _ _ _ _ h => h) (by kernel_rfl) rfl (by kernel_rfl) (by kernel_rfl) (fun V hV => (Sts.cell ((own_sl hEn).below hV) entC_len entD (k := (i - 1)) (i := 0) (by omega) rfl).2) hS22 ?_
          refine h_pv [35] 4 rfl #[true, true, true, true, true, true, true, true, true, true, true, true, true, true, true, true, true, true, true, true, true, true, true, true, true, true, true, true, true, true, true, true, true, true, true, true, false, false, false, false] [(119, .pointer (some ⟨b11, 0, none⟩))] (by kernel_rfl) (fun _ _ _ _ _ h => h) (by kernel_rfl) hS22 ?_
          refine h_load 36 3 rfl ⟨b11, 0, none⟩ (.int .i64 (((scanW lm root tree f2).es.getD i entD).1)) rfl (by kernel_rfl) (by kernel_rfl) (by kernel_rfl) (fun _ _ _ _ _ h => h) (by kernel_rfl) rfl (by kernel_rfl) (by kernel_rfl) (fun V hV => ((k16_b11.below hV).cell (i := 0) rfl)) hS22 ?_
          refine h_pv [37, 38, 39] 0 rfl #[true, true, true, true, true, true, true, true, true, true, true, true, true, true, true, true, true, true, true, true, true, true, true, true, true, true, true, true, true, true, true, true, true, true, true, true, true, true, true, true] [(121, .bool (decide (((scanW lm root tree f2).es.getD (i - 1) entD).1 ≥ ((scanW lm root tree f2).es.getD i entD).1))), (122, .bool (decide (((scanW lm root tree f2).es.getD (i - 1) entD).1 ≥ ((scanW lm root tree f2).es.getD i entD).1))), (123, .bool (decide (((scanW lm root tree f2).es.getD (i - 1) entD).1 ≥ ((scanW lm root tree f2).es.getD i entD).1)))] (by kernel_rfl) (fun _ _ _ _ _ h => h) (by kernel_rfl) hS22 ?_
          refine h_done _ (by kernel_rfl) ?_
          refine wp_cond_split (t := decide (((scanW lm root tree f2).es.getD (i - 1) entD).1 ≥ ((scanW lm root tree f2).es.getD i entD).1)) (by kernel_rfl) (fun hh => absurd (hh.symm.trans (show (decide (((scanW lm root tree f2).es.getD (i - 1) entD).1 ≥ ((scanW lm root tree f2).es.getD i entD).1) : Bool) = false from decide_eq_false (by have := pair_get (d := entD) hlaw.2.2.2.1 (show i - 1 < i by omega) (by omega); omega))) (by decide)) (fun _ => ?_)
          refine wp_skip ?_
          refine wp_region_lit ?_
          refine g_pv 1 [(52, .int .i64 (↑i : Int))] (by kernel_rfl) ?_
          refine g_op (by kernel_rfl) (op_wrap .i64 ((↑i : Int) + 1) (↑(i + 1) : Int) (by kernel_rfl) ((show IntKind.i64.wrap ((↑i : Int) + 1) = ((↑i : Int) + 1) from by first | exact IntWalk.i64_in _ (by omega) | (simp only [IntKind.wrap]; omega)).trans (by omega)) ?_)
          refine g_pv 1 [(13, .int .i64 (↑(i + 1) : Int))] (by kernel_rfl) ?_
          refine wpList_nil ?_
          refine g_nfr ⟨#[.slice a l.length c, .int .i64 root, .int .i64 tree, .int .i64 f2, .int .i64 more, undef, undef, undef, undef, undef, (x9 0), .pointer (some ⟨bi, 0, none⟩), .pointer (some ⟨b5, 0, none⟩), .int .i64 (↑(i + 1) : Int), .pointer (some ⟨b11, 0, none⟩), .pointer (some ⟨b14, 0, none⟩), .nilIface, .int .i64 (↑k : Int), undef, undef, undef, .slice a l.length c, .int .i64 (↑l.length : Int), .bool (decide ((↑l.length : Int) > (12000 : Int))), undef, .int .i64 fuel, .int .i64 f2, .slice a l.length c, .pointer (some ⟨bi, 0, none⟩), .pointer (some ⟨bi, 0, none⟩), .int .i64 root, .int .i64 tree, .int .i64 f2, .agg #[.slice pe ((scanW lm root tree f2).es.length) ce, .slice pb ((scanW lm root tree f2).bs.length) cb, .int .i64 ((scanW lm root tree f2).deep), .int .i64 (↑(scanW lm root tree f2).looked : Int), .slice pf ((scanW lm root tree f2).fs.length) cf], .pointer (some ⟨b5, 3, none⟩), .int .i64 (↑(scanW lm root tree f2).looked : Int), .int .i64 f2, .int .i64 (↑f2.toNat : Int), .bool false, .bool false, .pointer (some ⟨b5, 1, none⟩), .slice pb ((scanW lm root tree f2).bs.length) cb, .int .i64 (↑((scanW lm root tree f2).bs.length) : Int), .pointer (some ⟨b5, 3, none⟩), .int .i64 (↑(scanW lm root tree f2).looked : Int), .bool (decide ((↑((scanW lm root tree f2).bs.length) : Int) > (↑(scanW lm root tree f2).looked : Int))), .bool (decide ((↑((scanW lm root tree f2).bs.length) : Int) > (↑(scanW lm root tree f2).looked : Int))), .int .i64 (↑i : Int), .pointer (some ⟨b5, 0, none⟩), .slice pe ((scanW lm root tree f2).es.length) ce, .int .i64 (↑((scanW lm root tree f2).es.length) : Int), .bool (decide ((↑i : Int) < (↑((scanW lm root tree f2).es.length) : Int))), .int .i64 (↑i : Int), .int .i64 (↑(i + 1) : Int), .pointer (some ⟨b5, 0, none⟩), .slice pe ((scanW lm root tree f2).es.length) ce, .int .i64 (↑i : Int), .pointer (some (elemAddr pe (i * 3))), .agg #[.int .i64 (((scanW lm root tree f2).es.getD i entD).1), .string ⟨(((scanW lm root tree f2).es.getD i entD).2.1).toArray⟩, .int .i64 (((scanW lm root tree f2).es.getD i entD).2.2)], .tuple #[.agg #[.int .i64 (nodT (inB lm ((scanW lm root tree f2).es.getD i entD).2.2)), .bool (nodL (inB lm ((scanW lm root tree f2).es.getD i entD).2.2)), .slice kp (nodC (inB lm ((scanW lm root tree f2).es.getD i entD).2.2)) kc, .slice vp (nodC (inB lm ((scanW lm root tree f2).es.getD i entD).2.2)) vc], .nilIface], .pointer (some ⟨bi, 0, none⟩), .pointer (some ⟨b11, 2, none⟩), .int .i64 (((scanW lm root tree f2).es.getD i entD).2.2), .int .i64 tree, .tuple #[.agg #[.int .i64 (nodT (inB lm ((scanW lm root tree f2).es.getD i entD).2.2)), .bool (nodL (inB lm ((scanW lm root tree f2).es.getD i entD).2.2)), .slice kp (nodC (inB lm ((scanW lm root tree f2).es.getD i entD).2.2)) kc, .slice vp (nodC (inB lm ((scanW lm root tree f2).es.getD i entD).2.2)) vc], .nilIface], .agg #[.int .i64 (nodT (inB lm ((scanW lm root tree f2).es.getD i entD).2.2)), .bool (nodL (inB lm ((scanW lm root tree f2).es.getD i entD).2.2)), .slice kp (nodC (inB lm ((scanW lm root tree f2).es.getD i entD).2.2)) kc, .slice vp (nodC (inB lm ((scanW lm root tree f2).es.getD i entD).2.2)) vc], .nilIface, .int .i64 (↑k : Int), .pointer (some ⟨b14, 2, none⟩), .slice kp (nodC (inB lm ((scanW lm root tree f2).es.getD i entD).2.2)) kc, .int .i64 (↑(nodC (inB lm ((scanW lm root tree f2).es.getD i entD).2.2)) : Int), .bool true, .bool true, .pointer (some ⟨b14, 2, none⟩), .slice kp (nodC (inB lm ((scanW lm root tree f2).es.getD i entD).2.2)) kc, .int .i64 (↑k : Int), .pointer (some (elemAddr kp (k * 1))), .int .i64 ((nodK lm ((scanW lm root tree f2).es.getD i entD).2.2).getD k 0), .pointer (some ⟨b11, 0, none⟩), .int .i64 (((scanW lm root tree f2).es.getD i entD).1), .bool (((nodK lm ((scanW lm root tree f2).es.getD i entD).2.2).getD k 0) != ((scanW lm root tree f2).es.getD i entD).1), .bool (((nodK lm ((scanW lm root tree f2).es.getD i entD).2.2).getD k 0) != ((scanW lm root tree f2).es.getD i entD).1), (x16 15), (x16 16), .nilIface, .bool false, .bool false, .pointer (some ⟨b14, 1, none⟩), .bool (nodL (inB lm ((scanW lm root tree f2).es.getD i entD).2.2)), .bool false, .bool false, .bool false, .int .i64 (↑k : Int), .pointer (some ⟨b14, 2, none⟩), .slice kp (nodC (inB lm ((scanW lm root tree f2).es.getD i entD).2.2)) kc, .int .i64 (↑(nodC (inB lm ((scanW lm root tree f2).es.getD i entD).2.2)) : Int), .bool false, .bool false, .bool false, .pointer (some ⟨b14, 3, none⟩), .slice vp (nodC (inB lm ((scanW lm root tree f2).es.getD i entD).2.2)) vc, .int .i64 (↑k : Int), .pointer (some (elemAddr vp (k * 1))), .string ⟨((nodV lm ((scanW lm root tree f2).es.getD i entD).2.2).getD k []).toArray⟩, .pointer (some ⟨b11, 1, none⟩), .string ⟨(((scanW lm root tree f2).es.getD i entD).2.1).toArray⟩, .bool false, .bool false, .bool false, .int .i64 (↑i : Int), .bool true, .bool true, .pointer (some ⟨b5, 0, none⟩), .slice pe ((scanW lm root tree f2).es.length) ce, .int .i64 (↑i : Int), .int .i64 (↑(i - 1) : Int), .pointer (some (elemAddr pe ((i - 1) * 3))), .pointer (some (elemAddr pe ((i - 1) * 3))), .int .i64 (((scanW lm root tree f2).es.getD (i - 1) entD).1), .pointer (some ⟨b11, 0, none⟩), .int .i64 (((scanW lm root tree f2).es.getD i entD).1), .bool (decide (((scanW lm root tree f2).es.getD (i - 1) entD).1 ≥ ((scanW lm root tree f2).es.getD i entD).1)), .bool (decide (((scanW lm root tree f2).es.getD (i - 1) entD).1 ≥ ((scanW lm root tree f2).es.getD i entD).1)), .bool (decide (((scanW lm root tree f2).es.getD (i - 1) entD).1 ≥ ((scanW lm root tree f2).es.getD i entD).1)), undef, undef, undef, undef, undef, undef, undef, undef, undef, undef, undef, undef, undef, undef, undef, undef, undef, undef, undef, undef, undef, undef, undef, undef, undef, undef, undef, undef, undef, undef, undef, undef, undef, undef, undef, undef, undef, undef, undef, undef, undef, undef, undef, undef, undef, undef, undef, undef, undef, undef, undef, undef, undef, undef, undef, undef, undef, undef, undef, undef, undef, undef, undef, undef, undef, undef, undef, undef, undef, undef, undef, undef, undef, undef, undef, undef, undef, undef, undef, undef, undef, undef, undef, undef, undef, undef, undef, undef, undef, undef, undef, undef, undef, undef], []⟩ (by kernel_rfl) ?_
          refine ⟨⟨i + 1, (pk [(x9 0), .pointer (some ⟨b11, 0, none⟩), .pointer (some ⟨b14, 0, none⟩), .nilIface, .int .i64 (↑k : Int), .int .i64 (↑i : Int), .pointer (some ⟨b5, 0, none⟩), .slice pe ((scanW lm root tree f2).es.length) ce, .int .i64 (↑((scanW lm root tree f2).es.length) : Int), .bool (decide ((↑i : Int) < (↑((scanW lm root tree f2).es.length) : Int))), .int .i64 (↑i : Int), .int .i64 (↑(i + 1) : Int), .pointer (some ⟨b5, 0, none⟩), .slice pe ((scanW lm root tree f2).es.length) ce, .int .i64 (↑i : Int), .pointer (some (elemAddr pe (i * 3))), .agg #[.int .i64 (((scanW lm root tree f2).es.getD i entD).1), .string ⟨(((scanW lm root tree f2).es.getD i entD).2.1).toArray⟩, .int .i64 (((scanW lm root tree f2).es.getD i entD).2.2)], .tuple #[.agg #[.int .i64 (nodT (inB lm ((scanW lm root tree f2).es.getD i entD).2.2)), .bool (nodL (inB lm ((scanW lm root tree f2).es.getD i entD).2.2)), .slice kp (nodC (inB lm ((scanW lm root tree f2).es.getD i entD).2.2)) kc, .slice vp (nodC (inB lm ((scanW lm root tree f2).es.getD i entD).2.2)) vc], .nilIface], .pointer (some ⟨bi, 0, none⟩), .pointer (some ⟨b11, 2, none⟩), .int .i64 (((scanW lm root tree f2).es.getD i entD).2.2), .int .i64 tree, .tuple #[.agg #[.int .i64 (nodT (inB lm ((scanW lm root tree f2).es.getD i entD).2.2)), .bool (nodL (inB lm ((scanW lm root tree f2).es.getD i entD).2.2)), .slice kp (nodC (inB lm ((scanW lm root tree f2).es.getD i entD).2.2)) kc, .slice vp (nodC (inB lm ((scanW lm root tree f2).es.getD i entD).2.2)) vc], .nilIface], .agg #[.int .i64 (nodT (inB lm ((scanW lm root tree f2).es.getD i entD).2.2)), .bool (nodL (inB lm ((scanW lm root tree f2).es.getD i entD).2.2)), .slice kp (nodC (inB lm ((scanW lm root tree f2).es.getD i entD).2.2)) kc, .slice vp (nodC (inB lm ((scanW lm root tree f2).es.getD i entD).2.2)) vc], .nilIface, .int .i64 (↑k : Int), .pointer (some ⟨b14, 2, none⟩), .slice kp (nodC (inB lm ((scanW lm root tree f2).es.getD i entD).2.2)) kc, .int .i64 (↑(nodC (inB lm ((scanW lm root tree f2).es.getD i entD).2.2)) : Int), .bool true, .bool true, .pointer (some ⟨b14, 2, none⟩), .slice kp (nodC (inB lm ((scanW lm root tree f2).es.getD i entD).2.2)) kc, .int .i64 (↑k : Int), .pointer (some (elemAddr kp (k * 1))), .int .i64 ((nodK lm ((scanW lm root tree f2).es.getD i entD).2.2).getD k 0), .pointer (some ⟨b11, 0, none⟩), .int .i64 (((scanW lm root tree f2).es.getD i entD).1), .bool (((nodK lm ((scanW lm root tree f2).es.getD i entD).2.2).getD k 0) != ((scanW lm root tree f2).es.getD i entD).1), .bool (((nodK lm ((scanW lm root tree f2).es.getD i entD).2.2).getD k 0) != ((scanW lm root tree f2).es.getD i entD).1), (x16 15), (x16 16), .nilIface, .bool false, .bool false, .pointer (some ⟨b14, 1, none⟩), .bool (nodL (inB lm ((scanW lm root tree f2).es.getD i entD).2.2)), .bool false, .bool false, .bool false, .int .i64 (↑k : Int), .pointer (some ⟨b14, 2, none⟩), .slice kp (nodC (inB lm ((scanW lm root tree f2).es.getD i entD).2.2)) kc, .int .i64 (↑(nodC (inB lm ((scanW lm root tree f2).es.getD i entD).2.2)) : Int), .bool false, .bool false, .bool false, .pointer (some ⟨b14, 3, none⟩), .slice vp (nodC (inB lm ((scanW lm root tree f2).es.getD i entD).2.2)) vc, .int .i64 (↑k : Int), .pointer (some (elemAddr vp (k * 1))), .string ⟨((nodV lm ((scanW lm root tree f2).es.getD i entD).2.2).getD k []).toArray⟩, .pointer (some ⟨b11, 1, none⟩), .string ⟨(((scanW lm root tree f2).es.getD i entD).2.1).toArray⟩, .bool false, .bool false, .bool false, .int .i64 (↑i : Int), .bool true, .bool true, .pointer (some ⟨b5, 0, none⟩), .slice pe ((scanW lm root tree f2).es.length) ce, .int .i64 (↑i : Int), .int .i64 (↑(i - 1) : Int), .pointer (some (elemAddr pe ((i - 1) * 3))), .pointer (some (elemAddr pe ((i - 1) * 3))), .int .i64 (((scanW lm root tree f2).es.getD (i - 1) entD).1), .pointer (some ⟨b11, 0, none⟩), .int .i64 (((scanW lm root tree f2).es.getD i entD).1), .bool (decide (((scanW lm root tree f2).es.getD (i - 1) entD).1 ≥ ((scanW lm root tree f2).es.getD i entD).1)), .bool (decide (((scanW lm root tree f2).es.getD (i - 1) entD).1 ≥ ((scanW lm root tree f2).es.getD i entD).1)), .bool (decide (((scanW lm root tree f2).es.getD (i - 1) entD).1 ≥ ((scanW lm root tree f2).es.getD i entD).1))]), rfl, hB, k16_b5, hEn, hFl, hFv, hI, by omega⟩, ?_⟩
          show (scanW lm root tree f2).es.length - ((↑(i + 1) : Int)).toNat < (scanW lm root tree f2).es.length - ((↑i : Int)).toNat
          omega
        · refine h_b [110, 111] _ _ hc28 (by kernel_rfl) ?_
          have hc28 := of_decide_eq_false hc28
          refine h_pv [28, 29, 30, 31, 32, 33, 34, 35, 36, 37, 38, 39] 0 rfl #[true, true, true, true, true, true, true, true, true, true, true, true, true, true, true, true, true, true, true, true, true, true, true, true, true, true, true, true, true, true, true, true, true, true, true, true, true, true, true, true] [(112, undef), (113, undef), (114, undef), (115, undef), (116, undef), (117, undef), (118, undef), (119, undef), (120, undef), (121, undef), (122, .bool false), (123, .bool false)] (by kernel_rfl) (fun _ _ _ _ _ h => h) (by kernel_rfl) hS22 ?_
          refine h_done _ (by kernel_rfl) ?_
          refine wp_cond_false (by kernel_rfl) ?_
          refine wp_skip ?_
          refine wp_region_lit ?_
          refine g_pv 1 [(52, .int .i64 (↑i : Int))] (by kernel_rfl) ?_
          refine g_op (by kernel_rfl) (op_wrap .i64 ((↑i : Int) + 1) (↑(i + 1) : Int) (by kernel_rfl) ((show IntKind.i64.wrap ((↑i : Int) + 1) = ((↑i : Int) + 1) from by first | exact IntWalk.i64_in _ (by omega) | (simp only [IntKind.wrap]; omega)).trans (by omega)) ?_)
          refine g_pv 1 [(13, .int .i64 (↑(i + 1) : Int))] (by kernel_rfl) ?_
          refine wpList_nil ?_
          refine g_nfr ⟨#[.slice a l.length c, .int .i64 root, .int .i64 tree, .int .i64 f2, .int .i64 more, undef, undef, undef, undef, undef, (x9 0), .pointer (some ⟨bi, 0, none⟩), .pointer (some ⟨b5, 0, none⟩), .int .i64 (↑(i + 1) : Int), .pointer (some ⟨b11, 0, none⟩), .pointer (some ⟨b14, 0, none⟩), .nilIface, .int .i64 (↑k : Int), undef, undef, undef, .slice a l.length c, .int .i64 (↑l.length : Int), .bool (decide ((↑l.length : Int) > (12000 : Int))), undef, .int .i64 fuel, .int .i64 f2, .slice a l.length c, .pointer (some ⟨bi, 0, none⟩), .pointer (some ⟨bi, 0, none⟩), .int .i64 root, .int .i64 tree, .int .i64 f2, .agg #[.slice pe ((scanW lm root tree f2).es.length) ce, .slice pb ((scanW lm root tree f2).bs.length) cb, .int .i64 ((scanW lm root tree f2).deep), .int .i64 (↑(scanW lm root tree f2).looked : Int), .slice pf ((scanW lm root tree f2).fs.length) cf], .pointer (some ⟨b5, 3, none⟩), .int .i64 (↑(scanW lm root tree f2).looked : Int), .int .i64 f2, .int .i64 (↑f2.toNat : Int), .bool false, .bool false, .pointer (some ⟨b5, 1, none⟩), .slice pb ((scanW lm root tree f2).bs.length) cb, .int .i64 (↑((scanW lm root tree f2).bs.length) : Int), .pointer (some ⟨b5, 3, none⟩), .int .i64 (↑(scanW lm root tree f2).looked : Int), .bool (decide ((↑((scanW lm root tree f2).bs.length) : Int) > (↑(scanW lm root tree f2).looked : Int))), .bool (decide ((↑((scanW lm root tree f2).bs.length) : Int) > (↑(scanW lm root tree f2).looked : Int))), .int .i64 (↑i : Int), .pointer (some ⟨b5, 0, none⟩), .slice pe ((scanW lm root tree f2).es.length) ce, .int .i64 (↑((scanW lm root tree f2).es.length) : Int), .bool (decide ((↑i : Int) < (↑((scanW lm root tree f2).es.length) : Int))), .int .i64 (↑i : Int), .int .i64 (↑(i + 1) : Int), .pointer (some ⟨b5, 0, none⟩), .slice pe ((scanW lm root tree f2).es.length) ce, .int .i64 (↑i : Int), .pointer (some (elemAddr pe (i * 3))), .agg #[.int .i64 (((scanW lm root tree f2).es.getD i entD).1), .string ⟨(((scanW lm root tree f2).es.getD i entD).2.1).toArray⟩, .int .i64 (((scanW lm root tree f2).es.getD i entD).2.2)], .tuple #[.agg #[.int .i64 (nodT (inB lm ((scanW lm root tree f2).es.getD i entD).2.2)), .bool (nodL (inB lm ((scanW lm root tree f2).es.getD i entD).2.2)), .slice kp (nodC (inB lm ((scanW lm root tree f2).es.getD i entD).2.2)) kc, .slice vp (nodC (inB lm ((scanW lm root tree f2).es.getD i entD).2.2)) vc], .nilIface], .pointer (some ⟨bi, 0, none⟩), .pointer (some ⟨b11, 2, none⟩), .int .i64 (((scanW lm root tree f2).es.getD i entD).2.2), .int .i64 tree, .tuple #[.agg #[.int .i64 (nodT (inB lm ((scanW lm root tree f2).es.getD i entD).2.2)), .bool (nodL (inB lm ((scanW lm root tree f2).es.getD i entD).2.2)), .slice kp (nodC (inB lm ((scanW lm root tree f2).es.getD i entD).2.2)) kc, .slice vp (nodC (inB lm ((scanW lm root tree f2).es.getD i entD).2.2)) vc], .nilIface], .agg #[.int .i64 (nodT (inB lm ((scanW lm root tree f2).es.getD i entD).2.2)), .bool (nodL (inB lm ((scanW lm root tree f2).es.getD i entD).2.2)), .slice kp (nodC (inB lm ((scanW lm root tree f2).es.getD i entD).2.2)) kc, .slice vp (nodC (inB lm ((scanW lm root tree f2).es.getD i entD).2.2)) vc], .nilIface, .int .i64 (↑k : Int), .pointer (some ⟨b14, 2, none⟩), .slice kp (nodC (inB lm ((scanW lm root tree f2).es.getD i entD).2.2)) kc, .int .i64 (↑(nodC (inB lm ((scanW lm root tree f2).es.getD i entD).2.2)) : Int), .bool true, .bool true, .pointer (some ⟨b14, 2, none⟩), .slice kp (nodC (inB lm ((scanW lm root tree f2).es.getD i entD).2.2)) kc, .int .i64 (↑k : Int), .pointer (some (elemAddr kp (k * 1))), .int .i64 ((nodK lm ((scanW lm root tree f2).es.getD i entD).2.2).getD k 0), .pointer (some ⟨b11, 0, none⟩), .int .i64 (((scanW lm root tree f2).es.getD i entD).1), .bool (((nodK lm ((scanW lm root tree f2).es.getD i entD).2.2).getD k 0) != ((scanW lm root tree f2).es.getD i entD).1), .bool (((nodK lm ((scanW lm root tree f2).es.getD i entD).2.2).getD k 0) != ((scanW lm root tree f2).es.getD i entD).1), (x16 15), (x16 16), .nilIface, .bool false, .bool false, .pointer (some ⟨b14, 1, none⟩), .bool (nodL (inB lm ((scanW lm root tree f2).es.getD i entD).2.2)), .bool false, .bool false, .bool false, .int .i64 (↑k : Int), .pointer (some ⟨b14, 2, none⟩), .slice kp (nodC (inB lm ((scanW lm root tree f2).es.getD i entD).2.2)) kc, .int .i64 (↑(nodC (inB lm ((scanW lm root tree f2).es.getD i entD).2.2)) : Int), .bool false, .bool false, .bool false, .pointer (some ⟨b14, 3, none⟩), .slice vp (nodC (inB lm ((scanW lm root tree f2).es.getD i entD).2.2)) vc, .int .i64 (↑k : Int), .pointer (some (elemAddr vp (k * 1))), .string ⟨((nodV lm ((scanW lm root tree f2).es.getD i entD).2.2).getD k []).toArray⟩, .pointer (some ⟨b11, 1, none⟩), .string ⟨(((scanW lm root tree f2).es.getD i entD).2.1).toArray⟩, .bool false, .bool false, .bool false, .int .i64 (↑i : Int), .bool false, .bool false, undef, undef, undef, undef, undef, undef, undef, undef, undef, undef, .bool false, .bool false, undef, undef, undef, undef, undef, undef, undef, undef, undef, undef, undef, undef, undef, undef, undef, undef, undef, undef, undef, undef, undef, undef, undef, undef, undef, undef, undef, undef, undef, undef, undef, undef, undef, undef, undef, undef, undef, undef, undef, undef, undef, undef, undef, undef, undef, undef, undef, undef, undef, undef, undef, undef, undef, undef, undef, undef, undef, undef, undef, undef, undef, undef, undef, undef, undef, undef, undef, undef, undef, undef, undef, undef, undef, undef, undef, undef, undef, undef, undef, undef, undef, undef, undef, undef, undef, undef, undef, undef, undef, undef, undef, undef, undef, undef], []⟩ (by kernel_rfl) ?_
          refine ⟨⟨i + 1, (pk [(x9 0), .pointer (some ⟨b11, 0, none⟩), .pointer (some ⟨b14, 0, none⟩), .nilIface, .int .i64 (↑k : Int), .int .i64 (↑i : Int), .pointer (some ⟨b5, 0, none⟩), .slice pe ((scanW lm root tree f2).es.length) ce, .int .i64 (↑((scanW lm root tree f2).es.length) : Int), .bool (decide ((↑i : Int) < (↑((scanW lm root tree f2).es.length) : Int))), .int .i64 (↑i : Int), .int .i64 (↑(i + 1) : Int), .pointer (some ⟨b5, 0, none⟩), .slice pe ((scanW lm root tree f2).es.length) ce, .int .i64 (↑i : Int), .pointer (some (elemAddr pe (i * 3))), .agg #[.int .i64 (((scanW lm root tree f2).es.getD i entD).1), .string ⟨(((scanW lm root tree f2).es.getD i entD).2.1).toArray⟩, .int .i64 (((scanW lm root tree f2).es.getD i entD).2.2)], .tuple #[.agg #[.int .i64 (nodT (inB lm ((scanW lm root tree f2).es.getD i entD).2.2)), .bool (nodL (inB lm ((scanW lm root tree f2).es.getD i entD).2.2)), .slice kp (nodC (inB lm ((scanW lm root tree f2).es.getD i entD).2.2)) kc, .slice vp (nodC (inB lm ((scanW lm root tree f2).es.getD i entD).2.2)) vc], .nilIface], .pointer (some ⟨bi, 0, none⟩), .pointer (some ⟨b11, 2, none⟩), .int .i64 (((scanW lm root tree f2).es.getD i entD).2.2), .int .i64 tree, .tuple #[.agg #[.int .i64 (nodT (inB lm ((scanW lm root tree f2).es.getD i entD).2.2)), .bool (nodL (inB lm ((scanW lm root tree f2).es.getD i entD).2.2)), .slice kp (nodC (inB lm ((scanW lm root tree f2).es.getD i entD).2.2)) kc, .slice vp (nodC (inB lm ((scanW lm root tree f2).es.getD i entD).2.2)) vc], .nilIface], .agg #[.int .i64 (nodT (inB lm ((scanW lm root tree f2).es.getD i entD).2.2)), .bool (nodL (inB lm ((scanW lm root tree f2).es.getD i entD).2.2)), .slice kp (nodC (inB lm ((scanW lm root tree f2).es.getD i entD).2.2)) kc, .slice vp (nodC (inB lm ((scanW lm root tree f2).es.getD i entD).2.2)) vc], .nilIface, .int .i64 (↑k : Int), .pointer (some ⟨b14, 2, none⟩), .slice kp (nodC (inB lm ((scanW lm root tree f2).es.getD i entD).2.2)) kc, .int .i64 (↑(nodC (inB lm ((scanW lm root tree f2).es.getD i entD).2.2)) : Int), .bool true, .bool true, .pointer (some ⟨b14, 2, none⟩), .slice kp (nodC (inB lm ((scanW lm root tree f2).es.getD i entD).2.2)) kc, .int .i64 (↑k : Int), .pointer (some (elemAddr kp (k * 1))), .int .i64 ((nodK lm ((scanW lm root tree f2).es.getD i entD).2.2).getD k 0), .pointer (some ⟨b11, 0, none⟩), .int .i64 (((scanW lm root tree f2).es.getD i entD).1), .bool (((nodK lm ((scanW lm root tree f2).es.getD i entD).2.2).getD k 0) != ((scanW lm root tree f2).es.getD i entD).1), .bool (((nodK lm ((scanW lm root tree f2).es.getD i entD).2.2).getD k 0) != ((scanW lm root tree f2).es.getD i entD).1), (x16 15), (x16 16), .nilIface, .bool false, .bool false, .pointer (some ⟨b14, 1, none⟩), .bool (nodL (inB lm ((scanW lm root tree f2).es.getD i entD).2.2)), .bool false, .bool false, .bool false, .int .i64 (↑k : Int), .pointer (some ⟨b14, 2, none⟩), .slice kp (nodC (inB lm ((scanW lm root tree f2).es.getD i entD).2.2)) kc, .int .i64 (↑(nodC (inB lm ((scanW lm root tree f2).es.getD i entD).2.2)) : Int), .bool false, .bool false, .bool false, .pointer (some ⟨b14, 3, none⟩), .slice vp (nodC (inB lm ((scanW lm root tree f2).es.getD i entD).2.2)) vc, .int .i64 (↑k : Int), .pointer (some (elemAddr vp (k * 1))), .string ⟨((nodV lm ((scanW lm root tree f2).es.getD i entD).2.2).getD k []).toArray⟩, .pointer (some ⟨b11, 1, none⟩), .string ⟨(((scanW lm root tree f2).es.getD i entD).2.1).toArray⟩, .bool false, .bool false, .bool false, .int .i64 (↑i : Int), .bool false, .bool false, undef, undef, undef, undef, undef, undef, undef, undef, undef, undef, .bool false, .bool false]), rfl, hB, k16_b5, hEn, hFl, hFv, hI, by omega⟩, ?_⟩
          show (scanW lm root tree f2).es.length - ((↑(i + 1) : Int)).toNat < (scanW lm root tree f2).es.length - ((↑i : Int)).toNat
          omega
    · have hc10 := of_decide_eq_false hc10
      refine wp_exit ?_
      refine then_exit ?_
      refine then_exit ?_
      refine inBlock_hit ?_
      refine wp_seq ?_
      refine wp_region_lit ?_
      refine g_pv 1 [(18, .bool false)] (by kernel_rfl) ?_
      refine wpList_nil ?_
      refine wp_seq ?_
      refine wp_seq ?_
      refine wp_region_lit ?_
      refine g_pv 1 [(19, .int .i64 0)] (by kernel_rfl) ?_
      refine wpList_nil ?_
      refine wp_block ?_
      refine g_fr ⟨#[.slice a l.length c, .int .i64 root, .int .i64 tree, .int .i64 f2, .int .i64 more, undef, undef, undef, undef, undef, (x9 0), .pointer (some ⟨bi, 0, none⟩), .pointer (some ⟨b5, 0, none⟩), .int .i64 (↑i : Int), (x9 1), (x9 2), (x9 3), (x9 4), .bool false, .int .i64 0, undef, .slice a l.length c, .int .i64 (↑l.length : Int), .bool (decide ((↑l.length : Int) > (12000 : Int))), undef, .int .i64 fuel, .int .i64 f2, .slice a l.length c, .pointer (some ⟨bi, 0, none⟩), .pointer (some ⟨bi, 0, none⟩), .int .i64 root, .int .i64 tree, .int .i64 f2, .agg #[.slice pe ((scanW lm root tree f2).es.length) ce, .slice pb ((scanW lm root tree f2).bs.length) cb, .int .i64 ((scanW lm root tree f2).deep), .int .i64 (↑(scanW lm root tree f2).looked : Int), .slice pf ((scanW lm root tree f2).fs.length) cf], .pointer (some ⟨b5, 3, none⟩), .int .i64 (↑(scanW lm root tree f2).looked : Int), .int .i64 f2, .int .i64 (↑f2.toNat : Int), .bool false, .bool false, .pointer (some ⟨b5, 1, none⟩), .slice pb ((scanW lm root tree f2).bs.length) cb, .int .i64 (↑((scanW lm root tree f2).bs.length) : Int), .pointer (some ⟨b5, 3, none⟩), .int .i64 (↑(scanW lm root tree f2).looked : Int), .bool (decide ((↑((scanW lm root tree f2).bs.length) : Int) > (↑(scanW lm root tree f2).looked : Int))), .bool (decide ((↑((scanW lm root tree f2).bs.length) : Int) > (↑(scanW lm root tree f2).looked : Int))), .int .i64 (↑i : Int), .pointer (some ⟨b5, 0, none⟩), .slice pe ((scanW lm root tree f2).es.length) ce, .int .i64 (↑((scanW lm root tree f2).es.length) : Int), .bool (decide ((↑i : Int) < (↑((scanW lm root tree f2).es.length) : Int))), (x9 10), (x9 11), (x9 12), (x9 13), (x9 14), (x9 15), (x9 16), (x9 17), (x9 18), (x9 19), (x9 20), (x9 21), (x9 22), (x9 23), (x9 24), (x9 25), (x9 26), (x9 27), (x9 28), (x9 29), (x9 30), (x9 31), (x9 32), (x9 33), (x9 34), (x9 35), (x9 36), (x9 37), (x9 38), (x9 39), (x9 40), (x9 41), (x9 42), (x9 43), (x9 44), (x9 45), (x9 46), (x9 47), (x9 48), (x9 49), (x9 50), (x9 51), (x9 52), (x9 53), (x9 54), (x9 55), (x9 56), (x9 57), (x9 58), (x9 59), (x9 60), (x9 61), (x9 62), (x9 63), (x9 64), (x9 65), (x9 66), (x9 67), (x9 68), (x9 69), (x9 70), (x9 71), (x9 72), (x9 73), (x9 74), (x9 75), (x9 76), (x9 77), (x9 78), (x9 79), (x9 80), (x9 81), undef, undef, undef, undef, undef, undef, undef, undef, undef, undef, undef, undef, undef, undef, undef, undef, undef, undef, undef, undef, undef, undef, undef, undef, undef, undef, undef, undef, undef, undef, undef, undef, undef, undef, undef, undef, undef, undef, undef, undef, undef, undef, undef, undef, undef, undef, undef, undef, undef, undef, undef, undef, undef, undef, undef, undef, undef, undef, undef, undef, undef, undef, undef, undef, undef, undef, undef, undef, undef, undef, undef, undef, undef, undef, undef, undef, undef, undef, undef, undef, undef, undef, undef, undef, undef, undef, undef, undef, undef, undef, undef, undef, undef, undef], []⟩ (by kernel_rfl) ?_
      refine g_fr ⟨#[.slice a l.length c, .int .i64 root, .int .i64 tree, .int .i64 f2, .int .i64 more, undef, undef, undef, undef, undef, (x9 0), .pointer (some ⟨bi, 0, none⟩), .pointer (some ⟨b5, 0, none⟩), .int .i64 (↑i : Int), (x9 1), (x9 2), (x9 3), (x9 4), .bool (anyD (scanW lm root tree f2).fs 0), .int .i64 0, undef, .slice a l.length c, .int .i64 (↑l.length : Int), .bool (decide ((↑l.length : Int) > (12000 : Int))), undef, .int .i64 fuel, .int .i64 f2, .slice a l.length c, .pointer (some ⟨bi, 0, none⟩), .pointer (some ⟨bi, 0, none⟩), .int .i64 root, .int .i64 tree, .int .i64 f2, .agg #[.slice pe ((scanW lm root tree f2).es.length) ce, .slice pb ((scanW lm root tree f2).bs.length) cb, .int .i64 ((scanW lm root tree f2).deep), .int .i64 (↑(scanW lm root tree f2).looked : Int), .slice pf ((scanW lm root tree f2).fs.length) cf], .pointer (some ⟨b5, 3, none⟩), .int .i64 (↑(scanW lm root tree f2).looked : Int), .int .i64 f2, .int .i64 (↑f2.toNat : Int), .bool false, .bool false, .pointer (some ⟨b5, 1, none⟩), .slice pb ((scanW lm root tree f2).bs.length) cb, .int .i64 (↑((scanW lm root tree f2).bs.length) : Int), .pointer (some ⟨b5, 3, none⟩), .int .i64 (↑(scanW lm root tree f2).looked : Int), .bool (decide ((↑((scanW lm root tree f2).bs.length) : Int) > (↑(scanW lm root tree f2).looked : Int))), .bool (decide ((↑((scanW lm root tree f2).bs.length) : Int) > (↑(scanW lm root tree f2).looked : Int))), .int .i64 (↑i : Int), .pointer (some ⟨b5, 0, none⟩), .slice pe ((scanW lm root tree f2).es.length) ce, .int .i64 (↑((scanW lm root tree f2).es.length) : Int), .bool (decide ((↑i : Int) < (↑((scanW lm root tree f2).es.length) : Int))), (x9 10), (x9 11), (x9 12), (x9 13), (x9 14), (x9 15), (x9 16), (x9 17), (x9 18), (x9 19), (x9 20), (x9 21), (x9 22), (x9 23), (x9 24), (x9 25), (x9 26), (x9 27), (x9 28), (x9 29), (x9 30), (x9 31), (x9 32), (x9 33), (x9 34), (x9 35), (x9 36), (x9 37), (x9 38), (x9 39), (x9 40), (x9 41), (x9 42), (x9 43), (x9 44), (x9 45), (x9 46), (x9 47), (x9 48), (x9 49), (x9 50), (x9 51), (x9 52), (x9 53), (x9 54), (x9 55), (x9 56), (x9 57), (x9 58), (x9 59), (x9 60), (x9 61), (x9 62), (x9 63), (x9 64), (x9 65), (x9 66), (x9 67), (x9 68), (x9 69), (x9 70), (x9 71), (x9 72), (x9 73), (x9 74), (x9 75), (x9 76), (x9 77), (x9 78), (x9 79), (x9 80), (x9 81), undef, undef, undef, undef, undef, undef, undef, undef, undef, undef, undef, undef, undef, undef, undef, undef, undef, undef, undef, undef, undef, undef, undef, undef, undef, undef, undef, undef, undef, undef, undef, undef, undef, undef, undef, undef, undef, undef, undef, undef, undef, undef, undef, undef, undef, undef, undef, undef, undef, undef, undef, undef, undef, undef, undef, undef, undef, undef, undef, undef, undef, undef, undef, undef, undef, undef, undef, undef, undef, undef, undef, undef, undef, undef, undef, undef, undef, undef, undef, undef, undef, undef, undef, undef, undef, undef, undef, undef, undef, undef, undef, undef, undef, undef], []⟩ (by rfl) ?_
      refine wp_loop (fun act V => ∃ (j : Nat) (x30 : Nat → Value), act = ⟨#[.slice a l.length c, .int .i64 root, .int .i64 tree, .int .i64 f2, .int .i64 more, undef, undef, undef, undef, undef, (x30 0), .pointer (some ⟨bi, 0, none⟩), .pointer (some ⟨b5, 0, none⟩), .int .i64 (↑i : Int), (x9 1), (x9 2), (x9 3), (x9 4), .bool (anyD (scanW lm root tree f2).fs j), .int .i64 (↑j : Int), undef, .slice a l.length c, .int .i64 (↑l.length : Int), .bool (decide ((↑l.length : Int) > (12000 : Int))), undef, .int .i64 fuel, .int .i64 f2, .slice a l.length c, .pointer (some ⟨bi, 0, none⟩), .pointer (some ⟨bi, 0, none⟩), .int .i64 root, .int .i64 tree, .int .i64 f2, .agg #[.slice pe ((scanW lm root tree f2).es.length) ce, .slice pb ((scanW lm root tree f2).bs.length) cb, .int .i64 ((scanW lm root tree f2).deep), .int .i64 (↑(scanW lm root tree f2).looked : Int), .slice pf ((scanW lm root tree f2).fs.length) cf], .pointer (some ⟨b5, 3, none⟩), .int .i64 (↑(scanW lm root tree f2).looked : Int), .int .i64 f2, .int .i64 (↑f2.toNat : Int), .bool false, .bool false, .pointer (some ⟨b5, 1, none⟩), .slice pb ((scanW lm root tree f2).bs.length) cb, .int .i64 (↑((scanW lm root tree f2).bs.length) : Int), .pointer (some ⟨b5, 3, none⟩), .int .i64 (↑(scanW lm root tree f2).looked : Int), .bool (decide ((↑((scanW lm root tree f2).bs.length) : Int) > (↑(scanW lm root tree f2).looked : Int))), .bool (decide ((↑((scanW lm root tree f2).bs.length) : Int) > (↑(scanW lm root tree f2).looked : Int))), .int .i64 (↑i : Int), .pointer (some ⟨b5, 0, none⟩), .slice pe ((scanW lm root tree f2).es.length) ce, .int .i64 (↑((scanW lm root tree f2).es.length) : Int), .bool (decide ((↑i : Int) < (↑((scanW lm root tree f2).es.length) : Int))), (x9 10), (x9 11), (x9 12), (x9 13), (x9 14), (x9 15), (x9 16), (x9 17), (x9 18), (x9 19), (x9 20), (x9 21), (x9 22), (x9 23), (x9 24), (x9 25), (x9 26), (x9 27), (x9 28), (x9 29), (x9 30), (x9 31), (x9 32), (x9 33), (x9 34), (x9 35), (x9 36), (x9 37), (x9 38), (x9 39), (x9 40), (x9 41), (x9 42), (x9 43), (x9 44), (x9 45), (x9 46), (x9 47), (x9 48), (x9 49), (x9 50), (x9 51), (x9 52), (x9 53), (x9 54), (x9 55), (x9 56), (x9 57), (x9 58), (x9 59), (x9 60), (x9 61), (x9 62), (x9 63), (x9 64), (x9 65), (x9 66), (x9 67), (x9 68), (x9 69), (x9 70), (x9 71), (x9 72), (x9 73), (x9 74), (x9 75), (x9 76), (x9 77), (x9 78), (x9 79), (x9 80), (x9 81), (x30 1), (x30 2), (x30 3), (x30 4), (x30 5), (x30 6), (x30 7), (x30 8), (x30 9), (x30 10), (x30 11), (x30 12), (x30 13), (x30 14), (x30 15), (x30 16), (x30 17), (x30 18), (x30 19), (x30 20), (x30 21), (x30 22), (x30 23), (x30 24), (x30 25), (x30 26), (x30 27), (x30 28), (x30 29), (x30 30), (x30 31), (x30 32), (x30 33), (x30 34), (x30 35), (x30 36), (x30 37), (x30 38), (x30 39), (x30 40), (x30 41), (x30 42), (x30 43), (x30 44), undef, undef, undef, undef, undef, undef, undef, undef, undef, undef, undef, undef, undef, undef, undef, undef, undef, undef, undef, undef, undef, undef, undef, undef, undef, undef, undef, undef, undef, undef, undef, undef, undef, undef, undef, undef, undef, undef, undef, undef, undef, undef, undef, undef, undef, undef, undef, undef, undef, undef], []⟩ ∧ Below w.heap.size w V ∧ Blk V b5 ([.slice pe ((scanW lm root tree f2).es.length) ce, .slice pb ((scanW lm root tree f2).bs.length) cb, .int .i64 ((scanW lm root tree f2).deep), .int .i64 (↑(scanW lm root tree f2).looked : Int), .slice pf ((scanW lm root tree f2).fs.length) cf]) 30 ∧ V.ownsRow w.heap.size 33 3 (.slice pe (scanW lm root tree f2).es.length ce) (scanW lm root tree f2).es.length ((scanW lm root tree f2).es.flatMap entC) ∧ V.ownsRow w.heap.size 38 1 (.slice pf (scanW lm root tree f2).fs.length cf) (scanW lm root tree f2).fs.length fv ∧ FltsW V (scanW lm root tree f2).fs fv ∧ ImgR w.heap.size bi pi (min (l.length / 256) 14400 * 256) ci lm V ∧ j ≤ (scanW lm root tree f2).fs.length) (fun act V => (scanW lm root tree f2).fs.length - ((intOf (act.tmps.getD 19 undef))).toNat) ⟨0, (pk [(x9 0), undef, undef, undef, undef, undef, undef, undef, undef, undef, undef, undef, undef, undef, undef, undef, undef, undef, undef, undef, undef, undef, undef, undef, undef, undef, undef, undef, undef, undef, undef, undef, undef, undef, undef, undef, undef, undef, undef, undef, undef, undef, undef, undef, undef]), rfl, hB, k9_b5, hEn, hFl, hFv, hI, Nat.zero_le _⟩ ?_
      rintro _ W30 ⟨j, x30, rfl, hB, k30_b5, hEn, hFl, hFv, hI, hj_⟩
      refine wp_seq ?_
      refine wp_seq ?_
      refine wp_region_lit ?_
      refine g_pv 2 [(124, .int .i64 (↑j : Int)), (125, .pointer (some ⟨b5, 4, none⟩))] (by kernel_rfl) ?_
      refine g_op (by kernel_rfl) (op_load ⟨b5, 4, none⟩ (.slice pf ((scanW lm root tree f2).fs.length) cf) rfl (by kernel_rfl) (by kernel_rfl) (k30_b5.cell (i := 4) rfl) ?_)
      refine g_pv 2 [(127, .int .i64 (↑((scanW lm root tree f2).fs.length) : Int)), (128, .bool (decide ((↑j : Int) < (↑((scanW lm root tree f2).fs.length) : Int))))] (by kernel_rfl) ?_
      refine wpList_nil ?_
      refine wp_cond_split (t := decide ((↑j : Int) < (↑((scanW lm root tree f2).fs.length) : Int))) (by kernel_rfl) (fun hc31 => ?_) (fun hc31 => ?_)
      · have hc31 := of_decide_eq_true hc31
        obtain ⟨ty5, x5, hx5, hE5⟩ := hFv.at (j := j) (by omega)
        refine wp_skip ?_
        refine wp_seq ?_
        refine wp_block ?_
        refine wp_seq ?_
        refine wp_seq ?_
        refine wp_region_lit ?_
        refine g_pv 1 [(131, .pointer (some ⟨b5, 4, none⟩))] (by kernel_rfl) ?_
        refine g_op (by kernel_rfl) (op_load ⟨b5, 4, none⟩ (.slice pf ((scanW lm root tree f2).fs.length) cf) rfl (by kernel_rfl) (by kernel_rfl) (k30_b5.cell (i := 4) rfl) ?_)
        refine g_pv 1 [(133, .int .i64 (↑j : Int))] (by kernel_rfl) ?_
        refine g_op (by kernel_rfl) (op_val (run_indexA (size := 1) (k := j) (b := pf) (n := (scanW lm root tree f2).fs.length) (c := cf) (i := (↑j : Int)) (ki := .i64) rfl (by kernel_rfl) (by kernel_rfl) rfl (by omega) (Sl.elem1 (own_sl hFl) hx5).1 Try.underlying28 (by kernel_rfl) W30) ?_)
        refine g_op (by kernel_rfl) (op_load (elemAddr pf (j * 1)) (.iface ty5 (x5)) rfl (by kernel_rfl) (by kernel_rfl) (Sl.elem1 (own_sl hFl) hx5).2 ?_)
        refine g_pv 3 [(136, .bool false), (137, .bool false), (138, .pointer (some ⟨b5, 4, none⟩))] (by kernel_rfl) ?_
        refine g_op (by kernel_rfl) (op_load ⟨b5, 4, none⟩ (.slice pf ((scanW lm root tree f2).fs.length) cf) rfl (by kernel_rfl) (by kernel_rfl) (k30_b5.cell (i := 4) rfl) ?_)
        refine g_pv 1 [(140, .int .i64 (↑j : Int))] (by kernel_rfl) ?_
        refine g_op (by kernel_rfl) (op_val (run_indexA (size := 1) (k := j) (b := pf) (n := (scanW lm root tree f2).fs.length) (c := cf) (i := (↑j : Int)) (ki := .i64) rfl (by kernel_rfl) (by kernel_rfl) rfl (by omega) (Sl.elem1 (own_sl hFl) hx5).1 Try.underlying28 (by kernel_rfl) W30) ?_)
        refine g_op (by kernel_rfl) (op_load (elemAddr pf (j * 1)) (.iface ty5 (x5)) rfl (by kernel_rfl) (by kernel_rfl) (Sl.elem1 (own_sl hFl) hx5).2 ?_)
        have hne5 : 0 < ((scanW lm root tree f2).fs.getD j ([], 0)).1.length := List.length_pos_iff.2 (hlaw.2.2.2.2 _ (getD_in (by omega))).1
        have hs32 : w.heap.size ≤ (W30).heap.size := hB.size
        refine g_op (by kernel_rfl) (op_call (lb := #[]) 8 #[.iface ty5 (x5)] rfl (by kernel_rfl) (fun _ _ => by kernel_rfl) (by kernel_rfl) ((fault_BlocksS ((scanW lm root tree f2).fs.getD j ([], 0)).1 ((scanW lm root tree f2).fs.getD j ([], 0)).2 _ _ (by have := hlen ((scanW lm root tree f2).fs.getD j ([], 0)) (getD_in (by omega)); omega) hE5).mono ?_))
        rintro e W32 ⟨_, rfl, hb32, p1_, c1_, rfl, hq1⟩
        refine ⟨_, rfl, ?_⟩
        replace hB := Bl.next hB hb32
        replace k30_b5 := k30_b5.below hb32
        replace hI := hI.below hb32
        replace hEn := own_below hEn hb32
        replace hFl := own_below hFl hb32
        replace hFv := hFv.below hb32
        replace hE5 := hE5.below hb32
        replace hq1 := own_mono hq1 hs32
        refine g_pv 4 [(144, .int .i64 (↑(((scanW lm root tree f2).fs.getD j ([], 0)).1.length) : Int)), (145, .bool ((↑(((scanW lm root tree f2).fs.getD j ([], 0)).1.length) : Int) == (0 : Int))), (146, .bool ((↑(((scanW lm root tree f2).fs.getD j ([], 0)).1.length) : Int) == (0 : Int))), (147, .bool ((↑(((scanW lm root tree f2).fs.getD j ([], 0)).1.length) : Int) == (0 : Int)))] (by kernel_rfl) ?_
        have hc33 : (((↑(((scanW lm root tree f2).fs.getD j ([], 0)).1.length) : Int) == (0 : Int)) : Bool) = false := beq_eq_false_iff_ne.2 (by omega)
        refine g_b [145, 146, 147] _ _ hc33 (by kernel_rfl) ?_
        refine g_pv 1 [(148, .pointer (some ⟨b5, 4, none⟩))] (by kernel_rfl) ?_
        refine g_op (by kernel_rfl) (op_load ⟨b5, 4, none⟩ (.slice pf ((scanW lm root tree f2).fs.length) cf) rfl (by kernel_rfl) (by kernel_rfl) (k30_b5.cell (i := 4) rfl) ?_)
        refine g_pv 1 [(150, .int .i64 (↑j : Int))] (by kernel_rfl) ?_
        refine g_op (by kernel_rfl) (op_val (run_indexA (size := 1) (k := j) (b := pf) (n := (scanW lm root tree f2).fs.length) (c := cf) (i := (↑j : Int)) (ki := .i64) rfl (by kernel_rfl) (by kernel_rfl) rfl (by omega) (Sl.elem1 (own_sl hFl) hx5).1 Try.underlying28 (by kernel_rfl) W32) ?_)
        refine g_op (by kernel_rfl) (op_load (elemAddr pf (j * 1)) (.iface ty5 (x5)) rfl (by kernel_rfl) (by kernel_rfl) (Sl.elem1 (own_sl hFl) hx5).2 ?_)
        have hs34 : w.heap.size ≤ (W32).heap.size := hB.size
        refine g_op (by kernel_rfl) (op_call (lb := #[]) 8 #[.iface ty5 (x5)] rfl (by kernel_rfl) (fun _ _ => by kernel_rfl) (by kernel_rfl) ((fault_BlocksS ((scanW lm root tree f2).fs.getD j ([], 0)).1 ((scanW lm root tree f2).fs.getD j ([], 0)).2 _ _ (by have := hlen ((scanW lm root tree f2).fs.getD j ([], 0)) (getD_in (by omega)); omega) hE5).mono ?_))
        rintro e W34 ⟨_, rfl, hb34, p2_, c2_, rfl, hq2⟩
        refine ⟨_, rfl, ?_⟩
        replace hB := Bl.next hB hb34
        replace k30_b5 := k30_b5.below hb34
        replace hI := hI.below hb34
        replace hEn := own_below hEn hb34
        replace hFl := own_below hFl hb34
        replace hFv := hFv.below hb34
        replace hE5 := hE5.below hb34
        replace hq1 := own_below hq1 hb34
        replace hq2 := own_mono hq2 hs34
        refine g_op (by kernel_rfl) (op_val (run_indexA (size := 1) (k := 0) (b := p2_) (n := ((scanW lm root tree f2).fs.getD j ([], 0)).1.length) (c := c2_) (i := 0) (ki := .i64) rfl (by kernel_rfl) (by kernel_rfl) rfl (by omega) (Ints.elem (own_sl hq2) (k := 0) (by omega)).1 Try.underlying27 (by kernel_rfl) W34) ?_)
        refine g_op (by kernel_rfl) (op_load (elemAddr p2_ (0 * 1)) (.int .i64 (((scanW lm root tree f2).fs.getD j ([], 0)).1.getD 0 0)) rfl (by kernel_rfl) (by kernel_rfl) (Ints.elem (own_sl hq2) (k := 0) (by omega)).2 ?_)
        refine g_pv 3 [(156, .int .i64 root), (157, .bool ((((scanW lm root tree f2).fs.getD j ([], 0)).1.getD 0 0) != root)), (158, .bool ((((scanW lm root tree f2).fs.getD j ([], 0)).1.getD 0 0) != root))] (by kernel_rfl) ?_
        refine wpList_nil ?_
        refine wp_cond_split (t := ((((scanW lm root tree f2).fs.getD j ([], 0)).1.getD 0 0) != root)) (by kernel_rfl) (fun hh => absurd (hh.symm.trans (show (((((scanW lm root tree f2).fs.getD j ([], 0)).1.getD 0 0) != root) : Bool) = false from by rw [(hlaw.2.2.2.2 _ (getD_in (by omega))).2]; simp)) (by decide)) (fun _ => ?_)
        refine wp_skip ?_
        refine wp_region_lit ?_
        refine g_pv 2 [(159, .bool (anyD (scanW lm root tree f2).fs j)), (160, .bool (anyD (scanW lm root tree f2).fs j))] (by kernel_rfl) ?_
        rcases Bool.eq_false_or_eq_true (anyD (scanW lm root tree f2).fs j) with hc36 | hc36
        · refine g_b [18, 159, 160] _ _ hc36 (by kernel_rfl) ?_
          refine g_pv 8 [(161, undef), (162, undef), (163, undef), (164, undef), (165, undef), (166, undef), (167, .bool true), (18, .bool true)] (by kernel_rfl) ?_
          refine wpList_nil ?_
          refine wp_region_lit ?_
          refine g_pv 1 [(129, .int .i64 (↑j : Int))] (by kernel_rfl) ?_
          refine g_op (by kernel_rfl) (op_wrap .i64 ((↑j : Int) + 1) (↑(j + 1) : Int) (by kernel_rfl) ((show IntKind.i64.wrap ((↑j : Int) + 1) = ((↑j : Int) + 1) from by first | exact IntWalk.i64_in _ (by omega) | (simp only [IntKind.wrap]; omega)).trans (by omega)) ?_)
          refine g_pv 1 [(19, .int .i64 (↑(j + 1) : Int))] (by kernel_rfl) ?_
          refine wpList_nil ?_
          refine g_nfr ⟨#[.slice a l.length c, .int .i64 root, .int .i64 tree, .int .i64 f2, .int .i64 more, undef, undef, undef, undef, undef, (x30 0), .pointer (some ⟨bi, 0, none⟩), .pointer (some ⟨b5, 0, none⟩), .int .i64 (↑i : Int), (x9 1), (x9 2), (x9 3), (x9 4), .bool true, .int .i64 (↑(j + 1) : Int), undef, .slice a l.length c, .int .i64 (↑l.length : Int), .bool (decide ((↑l.length : Int) > (12000 : Int))), undef, .int .i64 fuel, .int .i64 f2, .slice a l.length c, .pointer (some ⟨bi, 0, none⟩), .pointer (some ⟨bi, 0, none⟩), .int .i64 root, .int .i64 tree, .int .i64 f2, .agg #[.slice pe ((scanW lm root tree f2).es.length) ce, .slice pb ((scanW lm root tree f2).bs.length) cb, .int .i64 ((scanW lm root tree f2).deep), .int .i64 (↑(scanW lm root tree f2).looked : Int), .slice pf ((scanW lm root tree f2).fs.length) cf], .pointer (some ⟨b5, 3, none⟩), .int .i64 (↑(scanW lm root tree f2).looked : Int), .int .i64 f2, .int .i64 (↑f2.toNat : Int), .bool false, .bool false, .pointer (some ⟨b5, 1, none⟩), .slice pb ((scanW lm root tree f2).bs.length) cb, .int .i64 (↑((scanW lm root tree f2).bs.length) : Int), .pointer (some ⟨b5, 3, none⟩), .int .i64 (↑(scanW lm root tree f2).looked : Int), .bool (decide ((↑((scanW lm root tree f2).bs.length) : Int) > (↑(scanW lm root tree f2).looked : Int))), .bool (decide ((↑((scanW lm root tree f2).bs.length) : Int) > (↑(scanW lm root tree f2).looked : Int))), .int .i64 (↑i : Int), .pointer (some ⟨b5, 0, none⟩), .slice pe ((scanW lm root tree f2).es.length) ce, .int .i64 (↑((scanW lm root tree f2).es.length) : Int), .bool (decide ((↑i : Int) < (↑((scanW lm root tree f2).es.length) : Int))), (x9 10), (x9 11), (x9 12), (x9 13), (x9 14), (x9 15), (x9 16), (x9 17), (x9 18), (x9 19), (x9 20), (x9 21), (x9 22), (x9 23), (x9 24), (x9 25), (x9 26), (x9 27), (x9 28), (x9 29), (x9 30), (x9 31), (x9 32), (x9 33), (x9 34), (x9 35), (x9 36), (x9 37), (x9 38), (x9 39), (x9 40), (x9 41), (x9 42), (x9 43), (x9 44), (x9 45), (x9 46), (x9 47), (x9 48), (x9 49), (x9 50), (x9 51), (x9 52), (x9 53), (x9 54), (x9 55), (x9 56), (x9 57), (x9 58), (x9 59), (x9 60), (x9 61), (x9 62), (x9 63), (x9 64), (x9 65), (x9 66), (x9 67), (x9 68), (x9 69), (x9 70), (x9 71), (x9 72), (x9 73), (x9 74), (x9 75), (x9 76), (x9 77), (x9 78), (x9 79), (x9 80), (x9 81), .int .i64 (↑j : Int), .pointer (some ⟨b5, 4, none⟩), .slice pf ((scanW lm root tree f2).fs.length) cf, .int .i64 (↑((scanW lm root tree f2).fs.length) : Int), .bool (decide ((↑j : Int) < (↑((scanW lm root tree f2).fs.length) : Int))), .int .i64 (↑j : Int), .int .i64 (↑(j + 1) : Int), .pointer (some ⟨b5, 4, none⟩), .slice pf ((scanW lm root tree f2).fs.length) cf, .int .i64 (↑j : Int), .pointer (some (elemAddr pf (j * 1))), .iface ty5 (x5), .bool false, .bool false, .pointer (some ⟨b5, 4, none⟩), .slice pf ((scanW lm root tree f2).fs.length) cf, .int .i64 (↑j : Int), .pointer (some (elemAddr pf (j * 1))), .iface ty5 (x5), .slice p1_ (((scanW lm root tree f2).fs.getD j ([], 0)).1.length) c1_, .int .i64 (↑(((scanW lm root tree f2).fs.getD j ([], 0)).1.length) : Int), .bool false, .bool false, .bool false, .pointer (some ⟨b5, 4, none⟩), .slice pf ((scanW lm root tree f2).fs.length) cf, .int .i64 (↑j : Int), .pointer (some (elemAddr pf (j * 1))), .iface ty5 (x5), .slice p2_ (((scanW lm root tree f2).fs.getD j ([], 0)).1.length) c2_, .pointer (some (elemAddr p2_ (0 * 1))), .int .i64 (((scanW lm root tree f2).fs.getD j ([], 0)).1.getD 0 0), .int .i64 root, .bool ((((scanW lm root tree f2).fs.getD j ([], 0)).1.getD 0 0) != root), .bool ((((scanW lm root tree f2).fs.getD j ([], 0)).1.getD 0 0) != root), .bool true, .bool true, undef, undef, undef, undef, undef, undef, .bool true, undef, undef, undef, undef, undef, undef, undef, undef, undef, undef, undef, undef, undef, undef, undef, undef, undef, undef, undef, undef, undef, undef, undef, undef, undef, undef, undef, undef, undef, undef, undef, undef, undef, undef, undef, undef, undef, undef, undef, undef, undef, undef, undef, undef, undef, undef, undef, undef, undef, undef], []⟩ (by kernel_rfl) ?_
          refine g_nfr ⟨#[.slice a l.length c, .int .i64 root, .int .i64 tree, .int .i64 f2, .int .i64 more, undef, undef, undef, undef, undef, (x30 0), .pointer (some ⟨bi, 0, none⟩), .pointer (some ⟨b5, 0, none⟩), .int .i64 (↑i : Int), (x9 1), (x9 2), (x9 3), (x9 4), .bool (anyD (scanW lm root tree f2).fs (j + 1)), .int .i64 (↑(j + 1) : Int), undef, .slice a l.length c, .int .i64 (↑l.length : Int), .bool (decide ((↑l.length : Int) > (12000 : Int))), undef, .int .i64 fuel, .int .i64 f2, .slice a l.length c, .pointer (some ⟨bi, 0, none⟩), .pointer (some ⟨bi, 0, none⟩), .int .i64 root, .int .i64 tree, .int .i64 f2, .agg #[.slice pe ((scanW lm root tree f2).es.length) ce, .slice pb ((scanW lm root tree f2).bs.length) cb, .int .i64 ((scanW lm root tree f2).deep), .int .i64 (↑(scanW lm root tree f2).looked : Int), .slice pf ((scanW lm root tree f2).fs.length) cf], .pointer (some ⟨b5, 3, none⟩), .int .i64 (↑(scanW lm root tree f2).looked : Int), .int .i64 f2, .int .i64 (↑f2.toNat : Int), .bool false, .bool false, .pointer (some ⟨b5, 1, none⟩), .slice pb ((scanW lm root tree f2).bs.length) cb, .int .i64 (↑((scanW lm root tree f2).bs.length) : Int), .pointer (some ⟨b5, 3, none⟩), .int .i64 (↑(scanW lm root tree f2).looked : Int), .bool (decide ((↑((scanW lm root tree f2).bs.length) : Int) > (↑(scanW lm root tree f2).looked : Int))), .bool (decide ((↑((scanW lm root tree f2).bs.length) : Int) > (↑(scanW lm root tree f2).looked : Int))), .int .i64 (↑i : Int), .pointer (some ⟨b5, 0, none⟩), .slice pe ((scanW lm root tree f2).es.length) ce, .int .i64 (↑((scanW lm root tree f2).es.length) : Int), .bool (decide ((↑i : Int) < (↑((scanW lm root tree f2).es.length) : Int))), (x9 10), (x9 11), (x9 12), (x9 13), (x9 14), (x9 15), (x9 16), (x9 17), (x9 18), (x9 19), (x9 20), (x9 21), (x9 22), (x9 23), (x9 24), (x9 25), (x9 26), (x9 27), (x9 28), (x9 29), (x9 30), (x9 31), (x9 32), (x9 33), (x9 34), (x9 35), (x9 36), (x9 37), (x9 38), (x9 39), (x9 40), (x9 41), (x9 42), (x9 43), (x9 44), (x9 45), (x9 46), (x9 47), (x9 48), (x9 49), (x9 50), (x9 51), (x9 52), (x9 53), (x9 54), (x9 55), (x9 56), (x9 57), (x9 58), (x9 59), (x9 60), (x9 61), (x9 62), (x9 63), (x9 64), (x9 65), (x9 66), (x9 67), (x9 68), (x9 69), (x9 70), (x9 71), (x9 72), (x9 73), (x9 74), (x9 75), (x9 76), (x9 77), (x9 78), (x9 79), (x9 80), (x9 81), .int .i64 (↑j : Int), .pointer (some ⟨b5, 4, none⟩), .slice pf ((scanW lm root tree f2).fs.length) cf, .int .i64 (↑((scanW lm root tree f2).fs.length) : Int), .bool (decide ((↑j : Int) < (↑((scanW lm root tree f2).fs.length) : Int))), .int .i64 (↑j : Int), .int .i64 (↑(j + 1) : Int), .pointer (some ⟨b5, 4, none⟩), .slice pf ((scanW lm root tree f2).fs.length) cf, .int .i64 (↑j : Int), .pointer (some (elemAddr pf (j * 1))), .iface ty5 (x5), .bool false, .bool false, .pointer (some ⟨b5, 4, none⟩), .slice pf ((scanW lm root tree f2).fs.length) cf, .int .i64 (↑j : Int), .pointer (some (elemAddr pf (j * 1))), .iface ty5 (x5), .slice p1_ (((scanW lm root tree f2).fs.getD j ([], 0)).1.length) c1_, .int .i64 (↑(((scanW lm root tree f2).fs.getD j ([], 0)).1.length) : Int), .bool false, .bool false, .bool false, .pointer (some ⟨b5, 4, none⟩), .slice pf ((scanW lm root tree f2).fs.length) cf, .int .i64 (↑j : Int), .pointer (some (elemAddr pf (j * 1))), .iface ty5 (x5), .slice p2_ (((scanW lm root tree f2).fs.getD j ([], 0)).1.length) c2_, .pointer (some (elemAddr p2_ (0 * 1))), .int .i64 (((scanW lm root tree f2).fs.getD j ([], 0)).1.getD 0 0), .int .i64 root, .bool ((((scanW lm root tree f2).fs.getD j ([], 0)).1.getD 0 0) != root), .bool ((((scanW lm root tree f2).fs.getD j ([], 0)).1.getD 0 0) != root), .bool true, .bool true, undef, undef, undef, undef, undef, undef, .bool true, undef, undef, undef, undef, undef, undef, undef, undef, undef, undef, undef, undef, undef, undef, undef, undef, undef, undef, undef, undef, undef, undef, undef, undef, undef, undef, undef, undef, undef, undef, undef, undef, undef, undef, undef, undef, undef, undef, undef, undef, undef, undef, undef, undef, undef, undef, undef, undef, undef, undef], []⟩ (by rw [anyD_succ (by omega), show anyD (scanW lm root tree f2).fs j = true by assumption, Bool.true_or]) ?_
          refine ⟨⟨j + 1, (pk [(x30 0), .int .i64 (↑j : Int), .pointer (some ⟨b5, 4, none⟩), .slice pf ((scanW lm root tree f2).fs.length) cf, .int .i64 (↑((scanW lm root tree f2).fs.length) : Int), .bool (decide ((↑j : Int) < (↑((scanW lm root tree f2).fs.length) : Int))), .int .i64 (↑j : Int), .int .i64 (↑(j + 1) : Int), .pointer (some ⟨b5, 4, none⟩), .slice pf ((scanW lm root tree f2).fs.length) cf, .int .i64 (↑j : Int), .pointer (some (elemAddr pf (j * 1))), .iface ty5 (x5), .bool false, .bool false, .pointer (some ⟨b5, 4, none⟩), .slice pf ((scanW lm root tree f2).fs.length) cf, .int .i64 (↑j : Int), .pointer (some (elemAddr pf (j * 1))), .iface ty5 (x5), .slice p1_ (((scanW lm root tree f2).fs.getD j ([], 0)).1.length) c1_, .int .i64 (↑(((scanW lm root tree f2).fs.getD j ([], 0)).1.length) : Int), .bool false, .bool false, .bool false, .pointer (some ⟨b5, 4, none⟩), .slice pf ((scanW lm root tree f2).fs.length) cf, .int .i64 (↑j : Int), .pointer (some (elemAddr pf (j * 1))), .iface ty5 (x5), .slice p2_ (((scanW lm root tree f2).fs.getD j ([], 0)).1.length) c2_, .pointer (some (elemAddr p2_ (0 * 1))), .int .i64 (((scanW lm root tree f2).fs.getD j ([], 0)).1.getD 0 0), .int .i64 root, .bool ((((scanW lm root tree f2).fs.getD j ([], 0)).1.getD 0 0) != root), .bool ((((scanW lm root tree f2).fs.getD j ([], 0)).1.getD 0 0) != root), .bool true, .bool true, undef, undef, undef, undef, undef, undef, .bool true]), rfl, hB, k30_b5, hEn, hFl, hFv, hI, by omega⟩, ?_⟩
          show (scanW lm root tree f2).fs.length - ((↑(j + 1) : Int)).toNat < (scanW lm root tree f2).fs.length - ((↑j : Int)).toNat
          omega
        · refine g_b [18, 159, 160] _ _ hc36 (by kernel_rfl) ?_
          refine g_pv 1 [(161, .pointer (some ⟨b5, 4, none⟩))] (by kernel_rfl) ?_
          refine g_op (by kernel_rfl) (op_load ⟨b5, 4, none⟩ (.slice pf ((scanW lm root tree f2).fs.length) cf) rfl (by kernel_rfl) (by kernel_rfl) (k30_b5.cell (i := 4) rfl) ?_)
          refine g_pv 1 [(163, .int .i64 (↑j : Int))] (by kernel_rfl) ?_
          refine g_op (by kernel_rfl) (op_val (run_indexA (size := 1) (k := j) (b := pf) (n := (scanW lm root tree f2).fs.length) (c := cf) (i := (↑j : Int)) (ki := .i64) rfl (by kernel_rfl) (by kernel_rfl) rfl (by omega) (Sl.elem1 (own_sl hFl) hx5).1 Try.underlying28 (by kernel_rfl) W34) ?_)
          refine g_op (by kernel_rfl) (op_load (elemAddr pf (j * 1)) (.iface ty5 (x5)) rfl (by kernel_rfl) (by kernel_rfl) (Sl.elem1 (own_sl hFl) hx5).2 ?_)
          refine g_op (by kernel_rfl) (op_call (lb := #[]) 9 #[.iface ty5 (x5), .int .i64 12] rfl (by kernel_rfl) (fun _ _ => by kernel_rfl) (by kernel_rfl) ((fault_IsS ((scanW lm root tree f2).fs.getD j ([], 0)).1 ((scanW lm root tree f2).fs.getD j ([], 0)).2 12 _ _ hE5).mono ?_))
          rintro e W37 ⟨rfl, hb37⟩
          refine ⟨_, rfl, ?_⟩
          replace hB := Bl.next hB hb37
          replace k30_b5 := k30_b5.below hb37
          replace hI := hI.below hb37
          replace hEn := own_below hEn hb37
          replace hFl := own_below hFl hb37
          replace hFv := hFv.below hb37
          replace hE5 := hE5.below hb37
          replace hq1 := own_below hq1 hb37
          replace hq2 := own_below hq2 hb37
          refine g_pv 2 [(167, .bool (((scanW lm root tree f2).fs.getD j ([], 0)).2 == 12)), (18, .bool (((scanW lm root tree f2).fs.getD j ([], 0)).2 == 12))] (by kernel_rfl) ?_
          refine wpList_nil ?_
          refine wp_region_lit ?_
          refine g_pv 1 [(129, .int .i64 (↑j : Int))] (by kernel_rfl) ?_
          refine g_op (by kernel_rfl) (op_wrap .i64 ((↑j : Int) + 1) (↑(j + 1) : Int) (by kernel_rfl) ((show IntKind.i64.wrap ((↑j : Int) + 1) = ((↑j : Int) + 1) from by first | exact IntWalk.i64_in _ (by omega) | (simp only [IntKind.wrap]; omega)).trans (by omega)) ?_)
          refine g_pv 1 [(19, .int .i64 (↑(j + 1) : Int))] (by kernel_rfl) ?_
          refine wpList_nil ?_
          refine g_nfr ⟨#[.slice a l.length c, .int .i64 root, .int .i64 tree, .int .i64 f2, .int .i64 more, undef, undef, undef, undef, undef, (x30 0), .pointer (some ⟨bi, 0, none⟩), .pointer (some ⟨b5, 0, none⟩), .int .i64 (↑i : Int), (x9 1), (x9 2), (x9 3), (x9 4), .bool (((scanW lm root tree f2).fs.getD j ([], 0)).2 == 12), .int .i64 (↑(j + 1) : Int), undef, .slice a l.length c, .int .i64 (↑l.length : Int), .bool (decide ((↑l.length : Int) > (12000 : Int))), undef, .int .i64 fuel, .int .i64 f2, .slice a l.length c, .pointer (some ⟨bi, 0, none⟩), .pointer (some ⟨bi, 0, none⟩), .int .i64 root, .int .i64 tree, .int .i64 f2, .agg #[.slice pe ((scanW lm root tree f2).es.length) ce, .slice pb ((scanW lm root tree f2).bs.length) cb, .int .i64 ((scanW lm root tree f2).deep), .int .i64 (↑(scanW lm root tree f2).looked : Int), .slice pf ((scanW lm root tree f2).fs.length) cf], .pointer (some ⟨b5, 3, none⟩), .int .i64 (↑(scanW lm root tree f2).looked : Int), .int .i64 f2, .int .i64 (↑f2.toNat : Int), .bool false, .bool false, .pointer (some ⟨b5, 1, none⟩), .slice pb ((scanW lm root tree f2).bs.length) cb, .int .i64 (↑((scanW lm root tree f2).bs.length) : Int), .pointer (some ⟨b5, 3, none⟩), .int .i64 (↑(scanW lm root tree f2).looked : Int), .bool (decide ((↑((scanW lm root tree f2).bs.length) : Int) > (↑(scanW lm root tree f2).looked : Int))), .bool (decide ((↑((scanW lm root tree f2).bs.length) : Int) > (↑(scanW lm root tree f2).looked : Int))), .int .i64 (↑i : Int), .pointer (some ⟨b5, 0, none⟩), .slice pe ((scanW lm root tree f2).es.length) ce, .int .i64 (↑((scanW lm root tree f2).es.length) : Int), .bool (decide ((↑i : Int) < (↑((scanW lm root tree f2).es.length) : Int))), (x9 10), (x9 11), (x9 12), (x9 13), (x9 14), (x9 15), (x9 16), (x9 17), (x9 18), (x9 19), (x9 20), (x9 21), (x9 22), (x9 23), (x9 24), (x9 25), (x9 26), (x9 27), (x9 28), (x9 29), (x9 30), (x9 31), (x9 32), (x9 33), (x9 34), (x9 35), (x9 36), (x9 37), (x9 38), (x9 39), (x9 40), (x9 41), (x9 42), (x9 43), (x9 44), (x9 45), (x9 46), (x9 47), (x9 48), (x9 49), (x9 50), (x9 51), (x9 52), (x9 53), (x9 54), (x9 55), (x9 56), (x9 57), (x9 58), (x9 59), (x9 60), (x9 61), (x9 62), (x9 63), (x9 64), (x9 65), (x9 66), (x9 67), (x9 68), (x9 69), (x9 70), (x9 71), (x9 72), (x9 73), (x9 74), (x9 75), (x9 76), (x9 77), (x9 78), (x9 79), (x9 80), (x9 81), .int .i64 (↑j : Int), .pointer (some ⟨b5, 4, none⟩), .slice pf ((scanW lm root tree f2).fs.length) cf, .int .i64 (↑((scanW lm root tree f2).fs.length) : Int), .bool (decide ((↑j : Int) < (↑((scanW lm root tree f2).fs.length) : Int))), .int .i64 (↑j : Int), .int .i64 (↑(j + 1) : Int), .pointer (some ⟨b5, 4, none⟩), .slice pf ((scanW lm root tree f2).fs.length) cf, .int .i64 (↑j : Int), .pointer (some (elemAddr pf (j * 1))), .iface ty5 (x5), .bool false, .bool false, .pointer (some ⟨b5, 4, none⟩), .slice pf ((scanW lm root tree f2).fs.length) cf, .int .i64 (↑j : Int), .pointer (some (elemAddr pf (j * 1))), .iface ty5 (x5), .slice p1_ (((scanW lm root tree f2).fs.getD j ([], 0)).1.length) c1_, .int .i64 (↑(((scanW lm root tree f2).fs.getD j ([], 0)).1.length) : Int), .bool false, .bool false, .bool false, .pointer (some ⟨b5, 4, none⟩), .slice pf ((scanW lm root tree f2).fs.length) cf, .int .i64 (↑j : Int), .pointer (some (elemAddr pf (j * 1))), .iface ty5 (x5), .slice p2_ (((scanW lm root tree f2).fs.getD j ([], 0)).1.length) c2_, .pointer (some (elemAddr p2_ (0 * 1))), .int .i64 (((scanW lm root tree f2).fs.getD j ([], 0)).1.getD 0 0), .int .i64 root, .bool ((((scanW lm root tree f2).fs.getD j ([], 0)).1.getD 0 0) != root), .bool ((((scanW lm root tree f2).fs.getD j ([], 0)).1.getD 0 0) != root), .bool false, .bool false, .pointer (some ⟨b5, 4, none⟩), .slice pf ((scanW lm root tree f2).fs.length) cf, .int .i64 (↑j : Int), .pointer (some (elemAddr pf (j * 1))), .iface ty5 (x5), .bool (((scanW lm root tree f2).fs.getD j ([], 0)).2 == 12), .bool (((scanW lm root tree f2).fs.getD j ([], 0)).2 == 12), undef, undef, undef, undef, undef, undef, undef, undef, undef, undef, undef, undef, undef, undef, undef, undef, undef, undef, undef, undef, undef, undef, undef, undef, undef, undef, undef, undef, undef, undef, undef, undef, undef, undef, undef, undef, undef, undef, undef, undef, undef, undef, undef, undef, undef, undef, undef, undef, undef, undef], []⟩ (by kernel_rfl) ?_
          refine g_nfr ⟨#[.slice a l.length c, .int .i64 root, .int .i64 tree, .int .i64 f2, .int .i64 more, undef, undef, undef, undef, undef, (x30 0), .pointer (some ⟨bi, 0, none⟩), .pointer (some ⟨b5, 0, none⟩), .int .i64 (↑i : Int), (x9 1), (x9 2), (x9 3), (x9 4), .bool (anyD (scanW lm root tree f2).fs (j + 1)), .int .i64 (↑(j + 1) : Int), undef, .slice a l.length c, .int .i64 (↑l.length : Int), .bool (decide ((↑l.length : Int) > (12000 : Int))), undef, .int .i64 fuel, .int .i64 f2, .slice a l.length c, .pointer (some ⟨bi, 0, none⟩), .pointer (some ⟨bi, 0, none⟩), .int .i64 root, .int .i64 tree, .int .i64 f2, .agg #[.slice pe ((scanW lm root tree f2).es.length) ce, .slice pb ((scanW lm root tree f2).bs.length) cb, .int .i64 ((scanW lm root tree f2).deep), .int .i64 (↑(scanW lm root tree f2).looked : Int), .slice pf ((scanW lm root tree f2).fs.length) cf], .pointer (some ⟨b5, 3, none⟩), .int .i64 (↑(scanW lm root tree f2).looked : Int), .int .i64 f2, .int .i64 (↑f2.toNat : Int), .bool false, .bool false, .pointer (some ⟨b5, 1, none⟩), .slice pb ((scanW lm root tree f2).bs.length) cb, .int .i64 (↑((scanW lm root tree f2).bs.length) : Int), .pointer (some ⟨b5, 3, none⟩), .int .i64 (↑(scanW lm root tree f2).looked : Int), .bool (decide ((↑((scanW lm root tree f2).bs.length) : Int) > (↑(scanW lm root tree f2).looked : Int))), .bool (decide ((↑((scanW lm root tree f2).bs.length) : Int) > (↑(scanW lm root tree f2).looked : Int))), .int .i64 (↑i : Int), .pointer (some ⟨b5, 0, none⟩), .slice pe ((scanW lm root tree f2).es.length) ce, .int .i64 (↑((scanW lm root tree f2).es.length) : Int), .bool (decide ((↑i : Int) < (↑((scanW lm root tree f2).es.length) : Int))), (x9 10), (x9 11), (x9 12), (x9 13), (x9 14), (x9 15), (x9 16), (x9 17), (x9 18), (x9 19), (x9 20), (x9 21), (x9 22), (x9 23), (x9 24), (x9 25), (x9 26), (x9 27), (x9 28), (x9 29), (x9 30), (x9 31), (x9 32), (x9 33), (x9 34), (x9 35), (x9 36), (x9 37), (x9 38), (x9 39), (x9 40), (x9 41), (x9 42), (x9 43), (x9 44), (x9 45), (x9 46), (x9 47), (x9 48), (x9 49), (x9 50), (x9 51), (x9 52), (x9 53), (x9 54), (x9 55), (x9 56), (x9 57), (x9 58), (x9 59), (x9 60), (x9 61), (x9 62), (x9 63), (x9 64), (x9 65), (x9 66), (x9 67), (x9 68), (x9 69), (x9 70), (x9 71), (x9 72), (x9 73), (x9 74), (x9 75), (x9 76), (x9 77), (x9 78), (x9 79), (x9 80), (x9 81), .int .i64 (↑j : Int), .pointer (some ⟨b5, 4, none⟩), .slice pf ((scanW lm root tree f2).fs.length) cf, .int .i64 (↑((scanW lm root tree f2).fs.length) : Int), .bool (decide ((↑j : Int) < (↑((scanW lm root tree f2).fs.length) : Int))), .int .i64 (↑j : Int), .int .i64 (↑(j + 1) : Int), .pointer (some ⟨b5, 4, none⟩), .slice pf ((scanW lm root tree f2).fs.length) cf, .int .i64 (↑j : Int), .pointer (some (elemAddr pf (j * 1))), .iface ty5 (x5), .bool false, .bool false, .pointer (some ⟨b5, 4, none⟩), .slice pf ((scanW lm root tree f2).fs.length) cf, .int .i64 (↑j : Int), .pointer (some (elemAddr pf (j * 1))), .iface ty5 (x5), .slice p1_ (((scanW lm root tree f2).fs.getD j ([], 0)).1.length) c1_, .int .i64 (↑(((scanW lm root tree f2).fs.getD j ([], 0)).1.length) : Int), .bool false, .bool false, .bool false, .pointer (some ⟨b5, 4, none⟩), .slice pf ((scanW lm root tree f2).fs.length) cf, .int .i64 (↑j : Int), .pointer (some (elemAddr pf (j * 1))), .iface ty5 (x5), .slice p2_ (((scanW lm root tree f2).fs.getD j ([], 0)).1.length) c2_, .pointer (some (elemAddr p2_ (0 * 1))), .int .i64 (((scanW lm root tree f2).fs.getD j ([], 0)).1.getD 0 0), .int .i64 root, .bool ((((scanW lm root tree f2).fs.getD j ([], 0)).1.getD 0 0) != root), .bool ((((scanW lm root tree f2).fs.getD j ([], 0)).1.getD 0 0) != root), .bool false, .bool false, .pointer (some ⟨b5, 4, none⟩), .slice pf ((scanW lm root tree f2).fs.length) cf, .int .i64 (↑j : Int), .pointer (some (elemAddr pf (j * 1))), .iface ty5 (x5), .bool (((scanW lm root tree f2).fs.getD j ([], 0)).2 == 12), .bool (((scanW lm root tree f2).fs.getD j ([], 0)).2 == 12), undef, undef, undef, undef, undef, undef, undef, undef, undef, undef, undef, undef, undef, undef, undef, undef, undef, undef, undef, undef, undef, undef, undef, undef, undef, undef, undef, undef, undef, undef, undef, undef, undef, undef, undef, undef, undef, undef, undef, undef, undef, undef, undef, undef, undef, undef, undef, undef, undef, undef], []⟩ (by rw [anyD_succ (by omega), show anyD (scanW lm root tree f2).fs j = false by assumption, Bool.false_or]) ?_
          refine ⟨⟨j + 1, (pk [(x30 0), .int .i64 (↑j : Int), .pointer (some ⟨b5, 4, none⟩), .slice pf ((scanW lm root tree f2).fs.length) cf, .int .i64 (↑((scanW lm root tree f2).fs.length) : Int), .bool (decide ((↑j : Int) < (↑((scanW lm root tree f2).fs.length) : Int))), .int .i64 (↑j : Int), .int .i64 (↑(j + 1) : Int), .pointer (some ⟨b5, 4, none⟩), .slice pf ((scanW lm root tree f2).fs.length) cf, .int .i64 (↑j : Int), .pointer (some (elemAddr pf (j * 1))), .iface ty5 (x5), .bool false, .bool false, .pointer (some ⟨b5, 4, none⟩), .slice pf ((scanW lm root tree f2).fs.length) cf, .int .i64 (↑j : Int), .pointer (some (elemAddr pf (j * 1))), .iface ty5 (x5), .slice p1_ (((scanW lm root tree f2).fs.getD j ([], 0)).1.length) c1_, .int .i64 (↑(((scanW lm root tree f2).fs.getD j ([], 0)).1.length) : Int), .bool false, .bool false, .bool false, .pointer (some ⟨b5, 4, none⟩), .slice pf ((scanW lm root tree f2).fs.length) cf, .int .i64 (↑j : Int), .pointer (some (elemAddr pf (j * 1))), .iface ty5 (x5), .slice p2_ (((scanW lm root tree f2).fs.getD j ([], 0)).1.length) c2_, .pointer (some (elemAddr p2_ (0 * 1))), .int .i64 (((scanW lm root tree f2).fs.getD j ([], 0)).1.getD 0 0), .int .i64 root, .bool ((((scanW lm root tree f2).fs.getD j ([], 0)).1.getD 0 0) != root), .bool ((((scanW lm root tree f2).fs.getD j ([], 0)).1.getD 0 0) != root), .bool false, .bool false, .pointer (some ⟨b5, 4, none⟩), .slice pf ((scanW lm root tree f2).fs.length) cf, .int .i64 (↑j : Int), .pointer (some (elemAddr pf (j * 1))), .iface ty5 (x5), .bool (((scanW lm root tree f2).fs.getD j ([], 0)).2 == 12), .bool (((scanW lm root tree f2).fs.getD j ([], 0)).2 == 12)]), rfl, hB, k30_b5, hEn, hFl, hFv, hI, by omega⟩, ?_⟩
          show (scanW lm root tree f2).fs.length - ((↑(j + 1) : Int)).toNat < (scanW lm root tree f2).fs.length - ((↑j : Int)).toNat
          omega
      · have hc31 := of_decide_eq_false hc31
        refine wp_exit ?_
        refine then_exit ?_
        refine then_exit ?_
        refine inBlock_hit ?_
        refine wp_seq ?_
        refine wp_seq ?_
        refine wp_region_lit ?_
        refine g_pv 1 [(168, .bool (anyD (scanW lm root tree f2).fs j))] (by kernel_rfl) ?_
        refine wpList_nil ?_
        refine wp_cond_split (t := (anyD (scanW lm root tree f2).fs j)) (by kernel_rfl) (fun hc38 => ?_) (fun hc38 => ?_)
        · refine wp_seq ?_
          refine wp_region_lit ?_
          refine g_pv 1 [(169, .pointer (some ⟨b5, 3, none⟩))] (by kernel_rfl) ?_
          refine g_op (by kernel_rfl) (op_load ⟨b5, 3, none⟩ (.int .i64 (↑(scanW lm root tree f2).looked : Int)) rfl (by kernel_rfl) (by kernel_rfl) (k30_b5.cell (i := 3) rfl) ?_)
          refine g_pv 1 [(171, .int .i64 f2)] (by kernel_rfl) ?_
          refine g_op (by kernel_rfl) (op_eq (.int .i64 (↑f2.toNat : Int)) (.int .i64 (if (0 : Int) > f2 then (0 : Int) else f2)) (by kernel_rfl) (congrArg (Value.int .i64) (by split <;> omega)) ?_)
          refine g_pv 2 [(173, .bool ((↑(scanW lm root tree f2).looked : Int) == (↑f2.toNat : Int))), (174, .bool ((↑(scanW lm root tree f2).looked : Int) == (↑f2.toNat : Int)))] (by kernel_rfl) ?_
          have hc39 : (((↑(scanW lm root tree f2).looked : Int) == (↑f2.toNat : Int)) : Bool) = true := by rw [scan_full (by rw [scan_dry (j := j) (by omega)]; assumption)]; simp
          refine g_b [173, 174] _ _ hc39 (by kernel_rfl) ?_
          refine g_op (by kernel_rfl) (op_call (lb := #[]) 4 #[] rfl (by kernel_rfl) (fun _ _ => by kernel_rfl) (by kernel_rfl) ((lives14 _).mono ?_))
          rintro e W40 ⟨rfl, hb40⟩
          refine ⟨_, rfl, ?_⟩
          replace hB := Bl.next hB hb40
          replace k30_b5 := k30_b5.below hb40
          replace hI := hI.below hb40
          replace hEn := own_below hEn hb40
          replace hFl := own_below hFl hb40
          replace hFv := hFv.below hb40
          refine g_pv 2 [(176, .bool true), (10, .bool true)] (by kernel_rfl) ?_
          refine wpList_nil ?_
          refine wp_ret (then_ret ?_)
          exact g_ret (.bool true) (by kernel_rfl) (by kernel_rfl) ⟨rfl, hB⟩
        · refine wp_skip ?_
          refine wp_seq ?_
          refine wp_region_lit ?_
          refine g_pv 5 [(177, .pointer (some ⟨bi, 0, none⟩)), (178, .int .i64 root), (179, .int .i64 tree), (180, .int .i64 f2), (181, .int .i64 more)] (by kernel_rfl) ?_
          refine g_op (by kernel_rfl) (op_eq (.int .i64 (↑q : Int)) (.int .i64 (IntKind.i64.wrap (↑(BitVec.ofInt 64 more &&& BitVec.ofInt 64 (255 : Int)).toNat : Int))) (by kernel_rfl) (congrArg (Value.int .i64) (hq)) ?_)
          refine g_op (by kernel_rfl) (op_wrap .i64 (f2 + (↑q : Int)) (f2 + (↑q : Int)) (by kernel_rfl) (by first | exact IntWalk.i64_in _ (by omega) | (simp only [IntKind.wrap]; omega)) ?_)
          refine g_op (by kernel_rfl) (op_call (lb := #[]) 6 #[.pointer (some ⟨bi, 0, none⟩), .int .i64 root, .int .i64 tree, .int .i64 (f2 + (↑q : Int))] rfl (by kernel_rfl) (fun _ _ => by kernel_rfl) (by kernel_rfl) ((walk_ScanAs w.heap.size bi pi _ ci lm root tree (f2 + (↑q : Int)) (scanW lm root tree f2) _ (by omega) hI (scan_more (by rw [scan_dry (j := j) (by omega)]; assumption))).mono ?_))
          rintro e W41 ⟨pe2, pb2, pf2, ce2, cb2, cf2, fv2, rfl, hb41, _⟩
          refine ⟨_, rfl, ?_⟩
          replace hB := Bl.next hB hb41
          replace k30_b5 := k30_b5.below hb41
          replace hI := hI.below hb41
          replace hEn := own_below hEn hb41
          replace hFl := own_below hFl hb41
          replace hFv := hFv.below hb41
          refine g_op (by kernel_rfl) (op_alloc [.slice none 0 0, .slice none 0 0, .int .i64 0, .int .i64 0, .slice none 0 0] rfl (by kernel_rfl) ?_)
          intro b42 W42 n42
          have d42_b5 := n42.ne k30_b5
          have g42 := n42.ge hB
          replace hB := Bl.next hB n42.below
          replace k30_b5 := k30_b5.below n42.below
          replace hI := hI.below n42.below
          replace hEn := own_below hEn n42.below
          replace hFl := own_below hFl n42.below
          replace hFv := hFv.below n42.below
          have k42 := n42.blk
          refine g_op (by kernel_rfl) (op_storev (b := b42) (off := 0) [.slice pe2 ((scanW lm root tree f2).es.length) ce2, .slice pb2 ((scanW lm root tree f2).bs.length) cb2, .int .i64 ((scanW lm root tree f2).deep), .int .i64 (↑(scanW lm root tree f2).looked : Int), .slice pf2 ((scanW lm root tree f2).fs.length) cf2] rfl (by kernel_rfl) (by kernel_rfl) (by kernel_rfl) (by first | decide | simp [Value.oneCell']) k42 (by first | decide | simp) ?_)
          intro W43 u43 k43
          change Blk _ _ [.slice pe2 ((scanW lm root tree f2).es.length) ce2, .slice pb2 ((scanW lm root tree f2).bs.length) cb2, .int .i64 ((scanW lm root tree f2).deep), .int .i64 (↑(scanW lm root tree f2).looked : Int), .slice pf2 ((scanW lm root tree f2).fs.length) cf2] _ at k43
          replace hB := u43.below hB g42
          replace k30_b5 := u43.blk k30_b5 (Ne.symm (Ne.symm d42_b5))
          replace hI := hI.only (Only.of_upd (T := [30]) u43 k42 (by decide)) (by decide)
          replace hEn := u43.own2 hEn k42 (by decide)
          replace hFl := u43.own2 hFl k42 (by decide)
          replace hFv := hFv.only (Only.of_upd (T := [30]) u43 k42 (by decide)) (by decide)
          refine wpList_nil ?_
          refine wp_seq ?_
          refine wp_region_lit ?_
          refine g_pv 1 [(185, .pointer (some ⟨b42, 3, none⟩))] (by kernel_rfl) ?_
          refine g_op (by kernel_rfl) (op_load ⟨b42, 3, none⟩ (.int .i64 (↑(scanW lm root tree f2).looked : Int)) rfl (by kernel_rfl) (by kernel_rfl) (k43.cell (i := 3) rfl) ?_)
          refine g_pv 1 [(187, .pointer (some ⟨b5, 3, none⟩))] (by kernel_rfl) ?_
          refine g_op (by kernel_rfl) (op_load ⟨b5, 3, none⟩ (.int .i64 (↑(scanW lm root tree f2).looked : Int)) rfl (by kernel_rfl) (by kernel_rfl) (k30_b5.cell (i := 3) rfl) ?_)
          refine g_pv 2 [(189, .bool ((↑(scanW lm root tree f2).looked : Int) == (↑(scanW lm root tree f2).looked : Int))), (190, .bool ((↑(scanW lm root tree f2).looked : Int) == (↑(scanW lm root tree f2).looked : Int)))] (by kernel_rfl) ?_
          have hc44 : (((↑(scanW lm root tree f2).looked : Int) == (↑(scanW lm root tree f2).looked : Int)) : Bool) = true := by simp
          refine g_b [189, 190] _ _ hc44 (by kernel_rfl) ?_
          refine g_pv 1 [(191, .pointer (some ⟨b42, 0, none⟩))] (by kernel_rfl) ?_
          refine g_op (by kernel_rfl) (op_load ⟨b42, 0, none⟩ (.slice pe2 ((scanW lm root tree f2).es.length) ce2) rfl (by kernel_rfl) (by kernel_rfl) (k43.cell (i := 0) rfl) ?_)
          refine g_pv 2 [(193, .int .i64 (↑((scanW lm root tree f2).es.length) : Int)), (194, .pointer (some ⟨b5, 0, none⟩))] (by kernel_rfl) ?_
          refine g_op (by kernel_rfl) (op_load ⟨b5, 0, none⟩ (.slice pe ((scanW lm root tree f2).es.length) ce) rfl (by kernel_rfl) (by kernel_rfl) (k30_b5.cell (i := 0) rfl) ?_)
          refine g_pv 4 [(196, .int .i64 (↑((scanW lm root tree f2).es.length) : Int)), (197, .bool ((↑((scanW lm root tree f2).es.length) : Int) == (↑((scanW lm root tree f2).es.length) : Int))), (198, .bool ((↑((scanW lm root tree f2).es.length) : Int) == (↑((scanW lm root tree f2).es.length) : Int))), (199, .bool ((↑((scanW lm root tree f2).es.length) : Int) == (↑((scanW lm root tree f2).es.length) : Int)))] (by kernel_rfl) ?_
          have hc45 : (((↑((scanW lm root tree f2).es.length) : Int) == (↑((scanW lm root tree f2).es.length) : Int)) : Bool) = true := by simp
          refine g_b [197, 198, 199] _ _ hc45 (by kernel_rfl) ?_
          refine g_pv 1 [(200, .pointer (some ⟨b42, 4, none⟩))] (by kernel_rfl) ?_
          refine g_op (by kernel_rfl) (op_load ⟨b42, 4, none⟩ (.slice pf2 ((scanW lm root tree f2).fs.length) cf2) rfl (by kernel_rfl) (by kernel_rfl) (k43.cell (i := 4) rfl) ?_)
          refine g_pv 2 [(202, .int .i64 (↑((scanW lm root tree f2).fs.length) : Int)), (203, .pointer (some ⟨b5, 4, none⟩))] (by kernel_rfl) ?_
          refine g_op (by kernel_rfl) (op_load ⟨b5, 4, none⟩ (.slice pf ((scanW lm root tree f2).fs.length) cf) rfl (by kernel_rfl) (by kernel_rfl) (k30_b5.cell (i := 4) rfl) ?_)
          refine g_pv 4 [(205, .int .i64 (↑((scanW lm root tree f2).fs.length) : Int)), (206, .bool ((↑((scanW lm root tree f2).fs.length) : Int) == (↑((scanW lm root tree f2).fs.length) : Int))), (207, .bool ((↑((scanW lm root tree f2).fs.length) : Int) == (↑((scanW lm root tree f2).fs.length) : Int))), (208, .bool ((↑((scanW lm root tree f2).fs.length) : Int) == (↑((scanW lm root tree f2).fs.length) : Int)))] (by kernel_rfl) ?_
          have hc46 : (((↑((scanW lm root tree f2).fs.length) : Int) == (↑((scanW lm root tree f2).fs.length) : Int)) : Bool) = true := by simp
          refine g_b [206, 207, 208] _ _ hc46 (by kernel_rfl) ?_
          refine g_pv 1 [(209, .pointer (some ⟨b42, 2, none⟩))] (by kernel_rfl) ?_
          refine g_op (by kernel_rfl) (op_load ⟨b42, 2, none⟩ (.int .i64 ((scanW lm root tree f2).deep)) rfl (by kernel_rfl) (by kernel_rfl) (k43.cell (i := 2) rfl) ?_)
          refine g_pv 1 [(211, .pointer (some ⟨b5, 2, none⟩))] (by kernel_rfl) ?_
          refine g_op (by kernel_rfl) (op_load ⟨b5, 2, none⟩ (.int .i64 ((scanW lm root tree f2).deep)) rfl (by kernel_rfl) (by kernel_rfl) (k30_b5.cell (i := 2) rfl) ?_)
          refine g_pv 3 [(213, .bool ((scanW lm root tree f2).deep == (scanW lm root tree f2).deep)), (214, .bool ((scanW lm root tree f2).deep == (scanW lm root tree f2).deep)), (215, .bool ((scanW lm root tree f2).deep == (scanW lm root tree f2).deep))] (by kernel_rfl) ?_
          have hc47 : (((scanW lm root tree f2).deep == (scanW lm root tree f2).deep) : Bool) = true := by simp
          refine g_b [213, 214, 215] _ _ hc47 (by kernel_rfl) ?_
          refine g_op (by kernel_rfl) (op_call (lb := #[]) 4 #[] rfl (by kernel_rfl) (fun _ _ => by kernel_rfl) (by kernel_rfl) ((lives14 _).mono ?_))
          rintro e W48 ⟨rfl, hb48⟩
          refine ⟨_, rfl, ?_⟩
          replace hB := Bl.next hB hb48
          replace k30_b5 := k30_b5.below hb48
          replace k43 := k43.below hb48
          replace hI := hI.below hb48
          replace hEn := own_below hEn hb48
          replace hFl := own_below hFl hb48
          replace hFv := hFv.below hb48
          refine g_pv 2 [(217, .bool true), (10, .bool true)] (by kernel_rfl) ?_
          refine wpList_nil ?_
          refine wp_ret ?_
          exact g_ret (.bool true) (by kernel_rfl) (by kernel_rfl) ⟨rfl, hB⟩
end Go.Proofs.Ytoiblgeheblddaa

