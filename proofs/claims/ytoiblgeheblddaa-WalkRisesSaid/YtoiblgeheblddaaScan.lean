/- walk.Scan. -/
import Derived.Test.YtoiblgeheblddaaVisit
import Derived.Test.YtoiblgeheblddaaWalkL
namespace Go.Proofs.Ytoiblgeheblddaa
open Go.RowKit Go.Extern.Stop Go.Stop Go.Extern
set_option linter.unusedVariables false
attribute [local irreducible] wpList wpAnyH Code.wp Oper.wp

theorem visit_all {B bw Bi b : Nat} {pi : Option Addr} {ni ci : Nat} {l : List UInt8} {tree fuel : Int} (hBb : B ≤ bw) (hfu : fuel ≤ 1000000) : ∀ d, VisitC B bw Bi b pi ni ci l tree fuel (d + 1)
  | 0 => fun way no lo hi s pe pb pf pw ce cb cf cw fv w h1 h2 h3 h4 h5 h6 h7 => walker_visit B bw Bi b pi ni ci l tree fuel 0 (fun h => absurd rfl h) way no lo hi s pe pb pf pw ce cb cf cw fv w hBb h2 h1 h3 hfu h4 h5 h6 h7
  | d + 1 => fun way no lo hi s pe pb pf pw ce cb cf cw fv w h1 h2 h3 h4 h5 h6 h7 => walker_visit B bw Bi b pi ni ci l tree fuel (d + 1) (fun _ => visit_all hBb hfu d) way no lo hi s pe pb pf pw ce cb cf cw fv w hBb h2 h1 h3 hfu h4 h5 h6 h7
def ws0 : WS := ⟨[], [], 0, 0, [], false⟩
/-- what a scan finds -/
def scanW (l : List UInt8) (root tree fuel : Int) : WS := visitF l tree fuel 17 [] root 0 281474976710656 ws0
theorem scanW_went (l : List UInt8) (root tree fuel : Int) : ∃ es fs, Went l tree fuel (some root) 0 281474976710656 ws0 (scanW l root tree fuel) es fs := visitF_went l tree fuel 17 [] root 0 281474976710656 ws0 rfl
theorem scanW_looked (l : List UInt8) (root tree fuel : Int) : (scanW l root tree fuel).looked ≤ fuel.toNat := by
  obtain ⟨_, _, h⟩ := scanW_went l root tree fuel
  exact h.look (Nat.zero_le _)
theorem scanW_few (l : List UInt8) (root tree fuel : Int) (hf : fuel ≤ 1000) : (scanW l root tree fuel).es.length ≤ 1000000 ∧ (scanW l root tree fuel).bs.length ≤ 1000000 ∧ (scanW l root tree fuel).fs.length ≤ 1000000 := by
  have h1 := visitF_count l tree fuel 17 [] root 0 281474976710656 ws0 rfl
  have h2 := scanW_looked l root tree fuel
  obtain ⟨_, _, h3⟩ := scanW_went l root tree fuel
  have h4 := h3.blks
  simp only [ws0, List.length_nil] at h4
  change (scanW l root tree fuel).fs.length + (scanW l root tree fuel).es.length + 18 * 0 ≤ 0 + 0 + 18 * (scanW l root tree fuel).looked + (if (scanW l root tree fuel).dry = true then 1 else 0) at h1
  have h5 : (if (scanW l root tree fuel).dry = true then 1 else 0) ≤ 1 := by split <;> omega
  have h6 : fuel.toNat ≤ 1000 := by omega
  generalize (if (scanW l root tree fuel).dry = true then 1 else 0) = q at h1 h5
  omega
/-- a scan's finding in memory: the five cells of a Walked -/
def walkC (t : WS) (pe pb pf : Option Addr) (ce cb cf : Nat) : List Value := [.slice pe t.es.length ce, .slice pb t.bs.length cb, .int .i64 t.deep, .int .i64 (t.looked : Int), .slice pf t.fs.length cf]
structure WalkV (B : Nat) (t : WS) (pe pb pf : Option Addr) (ce cb cf : Nat) (fv : List Value) (w : World) : Prop where
  ents : w.ownsRow B 33 3 (.slice pe t.es.length ce) t.es.length (t.es.flatMap entC)
  blks : w.ownsRow B 3 1 (.slice pb t.bs.length cb) t.bs.length (t.bs.map (Value.int .i64))
  flts : w.ownsRow B 38 1 (.slice pf t.fs.length cf) t.fs.length fv
  fltv : FltsW w t.fs fv
def ScanP (l : List UInt8) (root tree fuel : Int) (w : World) (e : Ending) (w' : World) : Prop :=
  ∃ pe pb pf ce cb cf fv, e = .returned (.agg (walkC (scanW l root tree fuel) pe pb pf ce cb cf).toArray) ∧ Below w.heap.size w w' ∧ WalkV w.heap.size (scanW l root tree fuel) pe pb pf ce cb cf fv w'
set_option maxRecDepth 100000 in
set_option maxHeartbeats 4000000 in
theorem walk_Scan (Bi b : Nat) (pi : Option Addr) (ni ci : Nat) (l : List UInt8) (root tree fuel : Int) (w : World) (hfu : fuel ≤ 1000) (hI : ImgR Bi b pi ni ci l w) :
    Calls Try.prog 6 #[.pointer (some ⟨b, 0, none⟩), .int .i64 root, .int .i64 tree, .int .i64 fuel] w (ScanP l root tree fuel w) := by
  refine calls_of_wp Try.func6 rfl ?_
  refine g_fr ⟨#[.pointer (some ⟨b, 0, none⟩), .int .i64 root, .int .i64 tree, .int .i64 fuel, undef, undef, undef, undef, undef, undef, undef, undef, undef, undef, undef, undef, undef, undef, undef, undef, undef, undef, undef], []⟩ (by kernel_rfl) ?_
  refine wp_seq ?_
  refine wp_region_lit ?_
  refine g_op (by kernel_rfl) (op_alloc [.slice none 0 0, .slice none 0 0, .int .i64 0, .int .i64 0, .slice none 0 0] rfl (by kernel_rfl) ?_)
  intro b1 W1 n1
  have g1 := n1.ge (Below.refl w.heap.size _)
  have hB := n1.below
  replace hI := hI.below n1.below
  have k1 := n1.blk
  refine wpList_nil ?_
  refine wp_seq ?_
  refine wp_region_lit ?_
  refine g_pv 4 [(10, .pointer (some ⟨b, 0, none⟩)), (11, .int .i64 tree), (12, .int .i64 fuel), (13, .agg #[.slice none 0 0, .slice none 0 0, .int .i64 0, .int .i64 0, .slice none 0 0, .pointer (some ⟨b, 0, none⟩), .int .i64 tree, .int .i64 fuel, .slice none 0 0, .bool false])] (by kernel_rfl) ?_
  refine g_op (by kernel_rfl) (op_box [.slice none 0 0, .slice none 0 0, .int .i64 0, .int .i64 0, .slice none 0 0, .pointer (some ⟨b, 0, none⟩), .int .i64 tree, .int .i64 fuel, .slice none 0 0, .bool false] rfl (by kernel_rfl) ?_)
  intro b2 W2 n2
  have d2_b1 := n2.ne k1
  have g2 := n2.ge hB
  replace hB := Bl.next hB n2.below
  replace k1 := k1.below n2.below
  replace hI := hI.below n2.below
  have k2 := n2.blk
  refine g_pv 1 [(9, .pointer (some ⟨b2, 0, none⟩))] (by kernel_rfl) ?_
  refine wpList_nil ?_
  refine wp_seq ?_
  refine wp_region_lit ?_
  refine g_pv 2 [(15, .pointer (some ⟨b2, 0, none⟩)), (16, .int .i64 root)] (by kernel_rfl) ?_
  refine g_op (by kernel_rfl) (op_call (lb := #[]) 14 #[] rfl (by kernel_rfl) (fun _ _ => by kernel_rfl) (by kernel_rfl) ((span_all _).mono ?_))
  rintro e W3 ⟨rfl, hb3⟩
  refine ⟨_, rfl, ?_⟩
  replace hB := Bl.next hB hb3
  replace k1 := k1.below hb3
  replace k2 := k2.below hb3
  replace hI := hI.below hb3
  have hfew := scanW_few l root tree fuel hfu
  refine g_op (by kernel_rfl) (op_call (lb := #[]) 13 #[.pointer (some ⟨b2, 0, none⟩), .int .i64 root, .agg #[.int .i64 0, .int .i64 281474976710656]] rfl (by kernel_rfl) (fun _ _ => by kernel_rfl) (by kernel_rfl) ((visit_all (B := w.heap.size) (bw := b2) (Bi := Bi) (b := b) (pi := pi) (ni := ni) (ci := ci) (l := l) (tree := tree) (fuel := fuel) g2 (by omega) 16 [] root 0 281474976710656 ws0 none none none none 0 0 0 0 [] _ rfl hB.size rfl ⟨k2, World.ownsRow_nil _ _ _ _, World.ownsRow_nil _ _ _ _, World.ownsRow_nil _ _ _ _, trivial, World.ownsRow_nil _ _ _ _, Apart.nil _, hI⟩ hfew.1 hfew.2.1 hfew.2.2).mono ?_))
  rintro e W4 ⟨u4, pe, pb, pf, pw, ce, cb, cf, cw, fv, rfl, hb4, hO4, hR⟩
  refine ⟨_, rfl, ?_⟩
  replace hB := hB.trans hb4
  replace k1 := k1.only hO4 (by decide)
  change WalkR _ _ _ _ _ _ _ _ _ _ _ (scanW l root tree fuel) _ _ _ _ _ _ _ _ _ _ at hR
  obtain ⟨kW, hEn, hBl, hFl, hFv, hWy, hAp, hI⟩ := hR
  refine wpList_nil ?_
  refine wp_seq ?_
  refine wp_region_lit ?_
  refine g_pv 3 [(19, .pointer (some ⟨b2, 0, none⟩)), (20, .pointer (some ⟨b2, 0, none⟩)), (21, .pointer (some ⟨b2, 0, none⟩))] (by kernel_rfl) ?_
  refine g_op (by kernel_rfl) (op_loadv (b := b2) (off := 0) [.slice pe ((scanW l root tree fuel).es.length) ce, .slice pb ((scanW l root tree fuel).bs.length) cb, .int .i64 (scanW l root tree fuel).deep, .int .i64 ((scanW l root tree fuel).looked : Int), .slice pf ((scanW l root tree fuel).fs.length) cf] _ rfl (by kernel_rfl) Try.underlying30 rfl (by kernel_rfl) (kW.part 0 5 (by first | decide | simp)) ?_)
  refine g_op (by kernel_rfl) (op_storev (b := b1) (off := 0) [.slice pe ((scanW l root tree fuel).es.length) ce, .slice pb ((scanW l root tree fuel).bs.length) cb, .int .i64 (scanW l root tree fuel).deep, .int .i64 ((scanW l root tree fuel).looked : Int), .slice pf ((scanW l root tree fuel).fs.length) cf] rfl (by kernel_rfl) (by kernel_rfl) (by kernel_rfl) (by first | decide | simp [Value.oneCell']) k1 (by first | decide | simp) ?_)
  intro W5 u5 k5
  change Blk _ _ [.slice pe ((scanW l root tree fuel).es.length) ce, .slice pb ((scanW l root tree fuel).bs.length) cb, .int .i64 (scanW l root tree fuel).deep, .int .i64 ((scanW l root tree fuel).looked : Int), .slice pf ((scanW l root tree fuel).fs.length) cf] _ at k5
  replace hB := u5.below hB g1
  replace kW := u5.blk kW (Ne.symm d2_b1)
  replace hEn := u5.own2 hEn k1 (by decide)
  replace hBl := u5.own2 hBl k1 (by decide)
  replace hFl := u5.own2 hFl k1 (by decide)
  replace hFv := hFv.only (Only.of_upd (T := [30]) u5 k1 (by decide)) (by decide)
  replace hI := hI.only (Only.of_upd (T := [30]) u5 k1 (by decide)) (by decide)
  refine wpList_nil ?_
  refine wp_ret ?_
  exact g_ret (.agg #[.slice pe ((scanW l root tree fuel).es.length) ce, .slice pb ((scanW l root tree fuel).bs.length) cb, .int .i64 (scanW l root tree fuel).deep, .int .i64 ((scanW l root tree fuel).looked : Int), .slice pf ((scanW l root tree fuel).fs.length) cf]) (by kernel_rfl) (res_c (d := _) (cs := [.slice pe ((scanW l root tree fuel).es.length) ce, .slice pb ((scanW l root tree fuel).bs.length) cb, .int .i64 (scanW l root tree fuel).deep, .int .i64 ((scanW l root tree fuel).looked : Int), .slice pf ((scanW l root tree fuel).fs.length) cf]) rfl (by kernel_rfl) k5.whole Try.underlying30 rfl (by kernel_rfl)) ⟨_, _, _, _, _, _, _, rfl, hB, ⟨hEn, hBl, hFl, hFv⟩⟩
end Go.Proofs.Ytoiblgeheblddaa

