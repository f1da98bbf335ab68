/- The statement AllocPlays, walked. -/
import Derived.Test.YtbopakjiahojdaaGreatDoorRef16b
import Derived.Test.YtbopakjiahojdaaGreatDoorLives16
import Derived.Test.YtbopakjiahojdaaGreatDoorStepsOpen
namespace Go.Proofs.YtbopakjiahojdaaGreatDoor
open Go.RowKit Go.Extern.Stop Go.Stop Go.Extern
set_option linter.unusedVariables false
attribute [local irreducible] wpList wpAnyH Code.wp Oper.wp

theorem ints_nil0 (w : World) : Ints w (.slice none 0 0) [] := .inl ⟨none, 0, rfl, rfl, rfl⟩
theorem ref_New_badN (bm : Nat) (p : Option Addr) (K c : Nat) (l : List UInt8) (B : Nat) (f : Int) (w : World) (hJ : RefI B bm p K c l w) (hf : ¬ (1 ≤ f ∧ f ≤ (K : Int))) :
    Calls Tryz.prog 10 #[.pointer (some ⟨bm, 0, none⟩), .int .i64 f] w (Ret (.tuple #[.pointer none, .agg #[.slice none 0 0, .int .i64 1]]) w) := ref_New_bad bm p K c f w hJ.blk hf
theorem ref_NewN (bm : Nat) (p : Option Addr) (K c : Nat) (l : List UInt8) (B : Nat) (f : Int) (w : World) (hJ : RefI B bm p K c l w) (hf : 1 ≤ f ∧ f ≤ (K : Int)) :
    Calls Tryz.prog 10 #[.pointer (some ⟨bm, 0, none⟩), .int .i64 f] w (RNewP bm f.toNat K w) := by
  have h := ref_New bm p f.toNat K c w hJ.blk hJ.hk (by omega) (by omega)
  rwa [show ((f.toNat : Nat) : Int) = f by omega] at h
/-- New, either way -/
def AnyP (bm : Nat) (w : World) (e : Ending) (w' : World) : Prop := ∃ v er, e = .returned (.tuple #[v, .agg #[.slice none 0 0, .int .i64 er]]) ∧ Below w.heap.size w w'
theorem ref_NewAny (bm : Nat) (p : Option Addr) (K c : Nat) (l : List UInt8) (B : Nat) (f : Int) (w : World) (hJ : RefI B bm p K c l w) : Calls Tryz.prog 10 #[.pointer (some ⟨bm, 0, none⟩), .int .i64 f] w (AnyP bm w) := by
  by_cases hf : 1 ≤ f ∧ f ≤ (K : Int)
  · refine (ref_NewN bm p K c l B f w hJ hf).mono ?_
    rintro e W ⟨bc, pg, cg, rfl, hb, _⟩
    exact ⟨_, _, rfl, hb⟩
  · refine (ref_New_badN bm p K c l B f w hJ hf).mono ?_
    rintro e W ⟨rfl, hb⟩
    exact ⟨_, _, rfl, hb⟩
def AnyP2 (w : World) (e : Ending) (w' : World) : Prop := ∃ v v2, e = .returned (.tuple #[v, v2]) ∧ Below w.heap.size w w'
theorem alloc_NewAny (b : Nat) (p0 : Option Addr) (n c K : Nat) (f : Int) (w : World) (hk : Blk w b [.slice p0 n c] 98) (hn : n ≤ 3686400) (hK : n = K * 256) : Calls Tryz.prog 22 #[.pointer (some ⟨b, 0, none⟩), .int .i64 f] w (AnyP2 w) := by
  refine (alloc_NewP b p0 n c K f w hk hn hK).mono ?_
  rintro e W (⟨_, rfl, hb⟩ | ⟨_, ba, pa, ca, rfl, hb, _⟩)
  · exact ⟨_, _, rfl, hb⟩
  · exact ⟨_, _, rfl, hb⟩
theorem alloc_FromN (b : Nat) (p0 : Option Addr) (n c K : Nat) (aL : Option Addr) (cL : Nat) (L : List Int) (w : World) (hk : Blk w b [.slice p0 n c] 98) (hn : n ≤ 3686400) (hK : n = K * 256) (h : Sl w (.slice aL L.length cL) L.length (L.map (Value.int .i64))) (hac : aL = none → cL = 0) (hLn : L.length ≤ 1000000) :
    Calls Tryz.prog 23 #[.pointer (some ⟨b, 0, none⟩), .slice aL L.length cL] w (FromP b K L w) := by
  have := alloc_From b p0 n c aL cL L w hk (by omega) h hac hLn
  rwa [show n / 256 = K by omega] at this
theorem told_z (er : Int) (v : Value) (w : World) (hg : ErrT w) (hv : ErrV w [] (erT er) v) : Calls Tryz.prog 15 #[v] w (RetS (fun w' r => FltV w' r [] er) w) := by
  have := law05_Told (erT er) [] v w (by decide) hg hv
  rwa [show codeOf [] (erT er) = er from (by unfold erT; split <;> simp_all [codeOf, noErr]), show blocksOf ([] : List (Option Int)) = [] from rfl] at this
theorem told_l (k N K : Nat) (L : List Int) (kind : Int) (li : List UInt8) (v : Value) (w : World) (hg : ErrT w) (hv : ErrV w ((lyB k N K L kind li).map some) (erT (lyE k N K L kind li)) v) : Calls Tryz.prog 15 #[v] w (RetS (fun w' r => FltV w' r (lyB k N K L kind li) (lyE k N K L kind li)) w) := by
  have hl : ((lyB k N K L kind li).map some).length ≤ 1000000 := by
    unfold lyB fltL
    split
    · split <;> simp
    · simp
  have := law05_Told _ _ v w hl hg hv
  rw [show blocksOf ((lyB k N K L kind li).map some) = lyB k N K L kind li by unfold blocksOf; simp [List.filterMap_map]] at this
  rwa [show codeOf ((lyB k N K L kind li).map some) (erT (lyE k N K L kind li)) = lyE k N K L kind li from ?_] at this
  by_cases hk : k < N
  · rw [lyB, lyE, if_pos hk, if_pos hk]
    have e := erL_code (L.getD k 0) (wrE kind (L.getD k 0) K li)
    rwa [show erL (L.getD k 0) (wrE kind (L.getD k 0) K li) = (fltL (L.getD k 0) (wrE kind (L.getD k 0) K li)).map some by unfold erL fltL; split <;> rfl] at e
  · rw [lyB, lyE, if_neg hk, if_neg hk]; rfl
theorem ref01_SameN (a b : Option Addr) (n ca cb : Nat) (L : List Int) (w : World) (hn : L.length = n) (ha : Sl w (.slice a n ca) n (L.map (Value.int .i64))) (hb : Sl w (.slice b n cb) n (L.map (Value.int .i64))) (hL : n ≤ 1000000) : Calls Tryz.prog 30 #[.slice a n ca, .slice b n cb] w (Ret (.bool true) w) := by
  subst hn; exact ref01_Same a b ca cb L w ha hb hL
theorem nxK_le {k N : Nat} (h : k ≤ N) : nxK k N ≤ N := by unfold nxK; split <;> omega
theorem good_nn {K N : Nat} {L : List Int} (h : goodB K L = true) (hL : L.length = N) {k : Nat} (hk : k < N) : 0 ≤ L.getD k 0 := by have := (goodB_get h (show k < L.length by omega)).1; omega
theorem fromE_good {K : Nat} {L : List Int} (h : fromE K L = 0) : goodB K L = true := by
  unfold fromE at h
  split at h
  · assumption
  · cases h
theorem ref_From_e (bm : Nat) (p : Option Addr) (K c : Nat) (aL : Option Addr) (cL : Nat) (L : List Int) (w : World) (hk : Blk w bm [.slice p K c] 77) (hK : K ≤ 14400) (h : Sl w (.slice aL L.length cL) L.length (L.map (Value.int .i64))) (hLn : L.length ≤ 1000000) (he : fromE K L ≠ 0) :
    Calls Tryz.prog 24 #[.pointer (some ⟨bm, 0, none⟩), .slice aL L.length cL] w (Ret (.tuple #[.pointer none, .agg #[.slice none 0 0, .int .i64 (fromE K L)]]) w) := by
  refine (ref_From bm p K c aL cL L w hk hK h hLn).mono ?_
  rintro e W (⟨_, rfl, hb⟩ | ⟨h0, _⟩)
  · exact ⟨rfl, hb⟩
  · exact absurd h0 he
theorem ref_From_o (bm : Nat) (p : Option Addr) (K c : Nat) (aL : Option Addr) (cL : Nat) (L : List Int) (w : World) (hk : Blk w bm [.slice p K c] 77) (hK : K ≤ 14400) (h : Sl w (.slice aL L.length cL) L.length (L.map (Value.int .i64))) (hLn : L.length ≤ 1000000) (he : fromE K L = 0) :
    Calls Tryz.prog 24 #[.pointer (some ⟨bm, 0, none⟩), .slice aL L.length cL] w (fun e w' => ∃ bc pg cg, e = .returned (.tuple #[.pointer (some ⟨bc, 0, none⟩), .agg #[.slice none 0 0, .int .i64 0]]) ∧ Below w.heap.size w w' ∧ RAl w.heap.size bc bm pg L.length cg pg L.length cg 0 L w') := by
  refine (ref_From bm p K c aL cL L w hk hK h hLn).mono ?_
  rintro e W (⟨h0, _⟩ | ⟨_, h⟩)
  · exact absurd he h0
  · exact h
set_option maxRecDepth 100000 in
set_option maxHeartbeats 8000000 in
theorem allocPlays_A (a : Option Addr) (c : Nat) (l : List UInt8) (f : Int) (aZ : Option Addr) (cZ : Nat) (Z : List Int) (aT : Option Addr) (cT : Nat) (T : List StT) (w : World) (h : Bys w (.slice a l.length c) l) (hZ : Sl w (.slice aZ Z.length cZ) Z.length (Z.map (Value.int .i64))) (hZc : aZ = none → cZ = 0) (hT : Sts stC w (.slice aT T.length cT) T) (hTb : ∀ i, i < T.length → Bys w (.slice (T.getD i stD).2.2.1 (T.getD i stD).2.2.2.2.length (T.getD i stD).2.2.2.1) (T.getD i stD).2.2.2.2) (hg : ErrT w) (hZ0 : Z.length = 0) :
    Calls Tryz.prog 4 #[.slice a l.length c, .int .i64 f, .slice aZ Z.length cZ, .slice aT T.length cT] w (Ret (.bool true) w) := by
  have hcap := h.cap rfl
  have hLN : (rngJ f.toNat ((l.length / 256) - f.toNat)).length = ((l.length / 256) - f.toNat) := rngJ_len _ _
  refine calls_of_wp Tryz.func4 rfl ?_
  refine g_fr ⟨#[.slice a l.length c, .int .i64 f, .slice aZ Z.length cZ, .slice aT T.length cT, undef, undef, undef, undef, undef, undef, undef, undef, undef, undef, undef, undef, undef, undef, undef, undef, undef, undef, undef, undef, undef, undef, undef, undef, undef, undef, undef, undef, undef, undef, undef, undef, undef, undef, undef, undef, undef, undef, undef, undef, undef, undef, undef, undef, undef, undef, undef, undef, undef, undef, undef, undef, undef, undef, undef, undef, undef, undef, undef, undef, undef, undef, undef, undef, undef, undef, undef, undef, undef, undef, undef, undef, undef, undef, undef, undef, undef, undef, undef, undef, undef, undef, undef, undef, undef, undef, undef, undef, undef, undef, undef, undef, undef, undef, undef, undef, undef, undef, undef, undef, undef, undef, undef, undef, undef, undef, undef, undef, undef, undef, undef, undef, undef, undef, undef, undef, undef, undef, undef, undef, undef, undef, undef, undef, undef, undef, undef, undef, undef, undef, undef, undef, undef, undef, undef, undef, undef, undef, undef, undef, undef, undef, undef, undef, undef, undef, undef, undef, undef, undef, undef, undef, undef, undef, undef, undef, undef, undef, undef, undef, undef, undef, undef, undef, undef, undef, undef, undef, undef, undef, undef, undef, undef, undef, undef, undef, undef, undef, undef, undef, undef, undef], []⟩ (by kernel_rfl) ?_
  refine wp_seq ?_
  refine wp_region_lit ?_
  refine g_pv 1 [(8, .bool false)] (by kernel_rfl) ?_
  refine wpList_nil ?_
  refine wp_seq ?_
  refine wp_seq ?_
  refine wp_region_lit ?_
  refine g_pv 4 [(21, .slice a l.length c), (22, .int .i64 (↑l.length : Int)), (23, .bool (decide ((↑l.length : Int) > (6000 : Int)))), (24, .bool (decide ((↑l.length : Int) > (6000 : Int))))] (by kernel_rfl) ?_
  rcases Bool.eq_false_or_eq_true (decide ((↑l.length : Int) > (6000 : Int))) with hc1 | hc1
  · refine g_b [23, 24] _ _ hc1 (by kernel_rfl) ?_
    have hc1 := of_decide_eq_true hc1
    refine g_pv 9 [(25, undef), (26, undef), (27, undef), (28, .bool true), (29, .bool true), (30, undef), (31, undef), (32, undef), (33, .bool true)] (by kernel_rfl) ?_
    refine wpList_nil ?_
    refine wp_cond_true (by kernel_rfl) ?_
    refine wp_seq ?_
    refine wp_region_lit ?_
    refine g_op (by kernel_rfl) (op_call (lb := #[]) 20 #[] rfl (by kernel_rfl) (fun _ _ => by kernel_rfl) (by kernel_rfl) ((lives16 _).mono ?_))
    rintro e W2 ⟨rfl, hb2⟩
    refine ⟨_, rfl, ?_⟩
    have hB := hb2
    refine g_pv 1 [(8, .bool true)] (by kernel_rfl) ?_
    refine wpList_nil ?_
    refine wp_ret (then_ret ?_)
    exact g_ret (.bool true) (by kernel_rfl) (by kernel_rfl) ⟨rfl, hB⟩
  · refine g_b [23, 24] _ _ hc1 (by kernel_rfl) ?_
    have hc1 := of_decide_eq_false hc1
    refine g_pv 5 [(25, .slice aT T.length cT), (26, .int .i64 (↑T.length : Int)), (27, .bool (decide ((↑T.length : Int) > (30 : Int)))), (28, .bool (decide ((↑T.length : Int) > (30 : Int)))), (29, .bool (decide ((↑T.length : Int) > (30 : Int))))] (by kernel_rfl) ?_
    rcases Bool.eq_false_or_eq_true (decide ((↑T.length : Int) > (30 : Int))) with hc3 | hc3
    · refine g_b [27, 28, 29] _ _ hc3 (by kernel_rfl) ?_
      have hc3 := of_decide_eq_true hc3
      refine g_pv 4 [(30, undef), (31, undef), (32, undef), (33, .bool true)] (by kernel_rfl) ?_
      refine wpList_nil ?_
      refine wp_cond_true (by kernel_rfl) ?_
      refine wp_seq ?_
      refine wp_region_lit ?_
      refine g_op (by kernel_rfl) (op_call (lb := #[]) 20 #[] rfl (by kernel_rfl) (fun _ _ => by kernel_rfl) (by kernel_rfl) ((lives16 _).mono ?_))
      rintro e W4 ⟨rfl, hb4⟩
      refine ⟨_, rfl, ?_⟩
      have hB := hb4
      refine g_pv 1 [(8, .bool true)] (by kernel_rfl) ?_
      refine wpList_nil ?_
      refine wp_ret (then_ret ?_)
      exact g_ret (.bool true) (by kernel_rfl) (by kernel_rfl) ⟨rfl, hB⟩
    · refine g_b [27, 28, 29] _ _ hc3 (by kernel_rfl) ?_
      have hc3 := of_decide_eq_false hc3
      refine g_pv 4 [(30, .slice aZ Z.length cZ), (31, .int .i64 (↑Z.length : Int)), (32, .bool (decide ((↑Z.length : Int) > (100 : Int)))), (33, .bool (decide ((↑Z.length : Int) > (100 : Int))))] (by kernel_rfl) ?_
      refine wpList_nil ?_
      refine wp_cond_split (t := decide ((↑Z.length : Int) > (100 : Int))) (by kernel_rfl) (fun hc5 => ?_) (fun hc5 => ?_)
      · have hc5 := of_decide_eq_true hc5
        refine wp_seq ?_
        refine wp_region_lit ?_
        refine g_op (by kernel_rfl) (op_call (lb := #[]) 20 #[] rfl (by kernel_rfl) (fun _ _ => by kernel_rfl) (by kernel_rfl) ((lives16 _).mono ?_))
        rintro e W6 ⟨rfl, hb6⟩
        refine ⟨_, rfl, ?_⟩
        have hB := hb6
        refine g_pv 1 [(8, .bool true)] (by kernel_rfl) ?_
        refine wpList_nil ?_
        refine wp_ret (then_ret ?_)
        exact g_ret (.bool true) (by kernel_rfl) (by kernel_rfl) ⟨rfl, hB⟩
      · have hc5 := of_decide_eq_false hc5
        refine wp_skip ?_
        refine wp_seq ?_
        refine wp_region_lit ?_
        refine g_pv 1 [(35, .slice a l.length c)] (by kernel_rfl) ?_
        have hs8 : w.heap.size ≤ (w).heap.size := (Below.refl w.heap.size _).size
        refine g_op (by kernel_rfl) (op_call (lb := #[]) 21 #[.slice a l.length c] rfl (by kernel_rfl) (fun _ _ => by kernel_rfl) (by kernel_rfl) ((image_OfR a c l.length ((l.length / 256) * 256) l _ rfl (by omega) (h.below (Below.refl w.heap.size _)) (by omega) hcap).mono ?_))
        rintro e W7 ⟨_, rfl, hb7, bi, pi, ci, rfl, _, hI⟩
        refine ⟨_, rfl, ?_⟩
        have hB := hb7
        replace hI := hI.mono hs8
        refine g_pv 1 [(37, .slice a l.length c)] (by kernel_rfl) ?_
        have hs9 : w.heap.size ≤ (W7).heap.size := hB.size
        refine g_op (by kernel_rfl) (op_call (lb := #[]) 9 #[.slice a l.length c] rfl (by kernel_rfl) (fun _ _ => by kernel_rfl) (by kernel_rfl) ((ref_OfN a c l.length (l.length / 256) l _ rfl (by omega) (h.below hB) (by omega)).mono ?_))
        rintro e W8 ⟨_, rfl, hb8, bj, pj, cj, rfl, _, hJ⟩
        refine ⟨_, rfl, ?_⟩
        replace hB := Bl.next hB hb8
        replace hI := hI.below hb8
        replace hJ := hJ.mono hs9
        refine g_pv 2 [(9, .pointer (some ⟨bi, 0, none⟩)), (10, .pointer (some ⟨bj, 0, none⟩))] (by kernel_rfl) ?_
        refine wpList_nil ?_
        refine wp_seq ?_
        refine wp_region_lit ?_
        refine g_pv 2 [(40, .pointer (some ⟨bi, 0, none⟩)), (41, .int .i64 f)] (by kernel_rfl) ?_
        have hw9 : w.heap.size ≤ (W8).heap.size := hB.size
        refine g_op (by kernel_rfl) (op_call (lb := #[]) 22 #[.pointer (some ⟨bi, 0, none⟩), .int .i64 f] rfl (by kernel_rfl) (fun _ _ => by kernel_rfl) (by kernel_rfl) ((alloc_NewP bi pi ((l.length / 256) * 256) ci (l.length / 256) f _ hI.blk (by omega) rfl).mono ?_))
        rintro e W9 hq9
        rcases hq9 with ⟨hf, rfl, hb9⟩ | ⟨hf, ba, pa, ca, rfl, hb9, hA⟩
        · refine ⟨_, rfl, ?_⟩
          replace hB := Bl.next hB hb9
          replace hI := hI.below hb9
          replace hJ := hJ.below hb9
          refine g_pv 5 [(39, .tuple #[.pointer none, .iface 40 (.int .i64 1)]), (43, .pointer none), (44, .iface 40 (.int .i64 1)), (11, .pointer none), (12, .iface 40 (.int .i64 1))] (by kernel_rfl) ?_
          refine wpList_nil ?_
          refine wp_seq ?_
          refine wp_region_lit ?_
          refine g_pv 2 [(46, .pointer (some ⟨bj, 0, none⟩)), (47, .int .i64 f)] (by kernel_rfl) ?_
          refine g_op (by kernel_rfl) (op_call (lb := #[]) 10 #[.pointer (some ⟨bj, 0, none⟩), .int .i64 f] rfl (by kernel_rfl) (fun _ _ => by kernel_rfl) (by kernel_rfl) ((ref_New_badN bj pj (l.length / 256) cj (l.take (l.length / 256 * 256)) _ f _ hJ hf).mono ?_))
          rintro e W10 ⟨rfl, hb10⟩
          refine ⟨_, rfl, ?_⟩
          replace hB := Bl.next hB hb10
          replace hI := hI.below hb10
          replace hJ := hJ.below hb10
          refine g_pv 3 [(45, .tuple #[.pointer none, .agg #[.slice none 0 0, .int .i64 1]]), (49, .pointer none), (50, .agg #[.slice none 0 0, .int .i64 1])] (by kernel_rfl) ?_
          refine g_op (by kernel_rfl) (op_alloc [.slice none 0 0, .int .i64 0] rfl (by kernel_rfl) ?_)
          intro b11 W11 n11
          have g11 := n11.ge hB
          replace hB := Bl.next hB n11.below
          replace hI := hI.below n11.below
          replace hJ := hJ.below n11.below
          have k11 := n11.blk
          refine g_pv 1 [(13, .pointer none)] (by kernel_rfl) ?_
          refine g_op (by kernel_rfl) (op_storev (b := b11) (off := 0) [.slice none 0 0, .int .i64 1] rfl (by kernel_rfl) (by kernel_rfl) (by kernel_rfl) (by first | decide | simp [Value.oneCell']) k11 (by first | decide | simp) ?_)
          intro W12 u12 k12
          change Blk _ _ [.slice none 0 0, .int .i64 1] _ at k12
          replace hB := u12.below hB g11
          replace hI := hI.only (Only.of_upd (T := [33]) u12 k11 (by decide)) (by decide)
          replace hJ := hJ.only (Only.of_upd (T := [33]) u12 k11 (by decide)) (by decide)
          refine wpList_nil ?_
          refine wp_seq ?_
          refine wp_seq ?_
          refine wp_region_lit ?_
          refine g_pv 3 [(51, .slice aZ Z.length cZ), (52, .int .i64 (↑Z.length : Int)), (53, .bool (decide ((↑Z.length : Int) > (0 : Int))))] (by kernel_rfl) ?_
          refine wpList_nil ?_
          refine wp_cond_split (t := decide ((↑Z.length : Int) > (0 : Int))) (by kernel_rfl) (fun hh => absurd (hh.symm.trans (show (decide ((↑Z.length : Int) > (0 : Int)) : Bool) = false from decide_eq_false (by omega))) (by decide)) (fun _ => ?_)
          refine wp_skip ?_
          refine wp_seq ?_
          refine wp_seq ?_
          replace hB := Bl.next hB (below_drew W12)
          replace k12 := k12.below (below_drew W12)
          replace hI := hI.below (below_drew W12)
          replace hJ := hJ.below (below_drew W12)
          refine h_reg (Below (W12.drew).heap.size (W12.drew)) 12 rfl #[false, false, false, false, false, false, false, false, false, false, false, false] rfl (by kernel_rfl) (Below.refl _ _) ?_
          intro hS14
          have hBd16 := hB
          have kd16_b11 := k12
          refine h_pv [0] 11 rfl #[true, false, false, false, false, false, false, false, false, false, false, false] [(66, .iface 40 (.int .i64 1))] (by kernel_rfl) (fun _ _ _ _ _ h => h) (by kernel_rfl) hS14 ?_
          refine h_loadv (b := b11) (off := 0) 2 10 rfl [.slice none 0 0, .int .i64 1] _ rfl (by kernel_rfl) (by kernel_rfl) (by kernel_rfl) (fun _ _ _ _ _ h => h) (by kernel_rfl) rfl (by kernel_rfl) Tryz.underlying33 rfl (by kernel_rfl) (fun V hV => (k12.below hV).whole) hS14 ?_
          refine h_one 1 9 rfl (by kernel_rfl) rfl (by kernel_rfl) (op_call (lb := #[]) 15 #[.iface 40 (.int .i64 1)] rfl (by kernel_rfl) (fun _ _ => by kernel_rfl) (by kernel_rfl) ((told_z 1 _ _ (hg.below hB) (by first | exact rfl | (rw [erT, if_neg he]; exact rfl))).mono ?_))
          rintro e W17 ⟨vt17, rfl, hb17, hq⟩
          refine ⟨_, rfl, ?_⟩
          replace hB := Bl.next hB hb17
          replace k12 := k12.below hb17
          replace hI := hI.below hb17
          replace hJ := hJ.below hb17
          have hS18 : Below (W12.drew).heap.size (W12.drew) (W17) := Bl.next hS14 hb17
          refine ⟨hS18, ?_⟩
          refine h_str (Below (W17).heap.size (W17)) (fun V hV => Bl.next hS18 hV) ?_
          have hS19 : Below (W17).heap.size (W17) (W17) := Below.refl _ _
          refine h_one 3 8 rfl (by kernel_rfl) rfl (by kernel_rfl) (op_call (lb := #[]) 14 #[vt17, .agg #[.slice none 0 0, .int .i64 1]] rfl (by kernel_rfl) (fun _ _ => by kernel_rfl) (by kernel_rfl) ((ref05_Same [] 1 vt17 _ _ hq ⟨_, rfl, ints_nil0 _⟩).mono ?_))
          rintro e W20 ⟨rfl, hb20⟩
          refine ⟨_, rfl, ?_⟩
          replace hB := Bl.next hB hb20
          replace k12 := k12.below hb20
          replace hI := hI.below hb20
          replace hJ := hJ.below hb20
          replace hq := hq.below hb20
          have hS21 : Below (W17).heap.size (W17) (W20) := Bl.next hS19 hb20
          refine ⟨hS21, ?_⟩
          refine h_str (Below (W20).heap.size (W20)) (fun V hV => Bl.next hS21 hV) ?_
          have hS22 : Below (W20).heap.size (W20) (W20) := Below.refl _ _
          refine h_pv [4, 5, 6, 7, 8, 9, 10, 11] 0 rfl #[true, true, true, true, true, true, true, true, true, true, true, true] [(70, .bool false), (71, .bool false), (72, .pointer none), (73, .bool true), (74, .pointer none), (75, .bool true), (76, .bool false), (77, .bool false)] (by kernel_rfl) (fun _ _ _ _ _ h => h) (by kernel_rfl) hS22 ?_
          refine h_done _ (by kernel_rfl) ?_
          refine wp_cond_false (by kernel_rfl) ?_
          refine wp_skip ?_
          refine wp_seq ?_
          refine wp_seq ?_
          refine wp_region_lit ?_
          refine g_pv 2 [(78, .pointer none), (79, .bool true)] (by kernel_rfl) ?_
          refine wpList_nil ?_
          refine wp_cond_true (by kernel_rfl) ?_
          refine wp_seq ?_
          refine wp_region_lit ?_
          refine g_op (by kernel_rfl) (op_call (lb := #[]) 20 #[] rfl (by kernel_rfl) (fun _ _ => by kernel_rfl) (by kernel_rfl) ((lives16 _).mono ?_))
          rintro e W23 ⟨rfl, hb23⟩
          refine ⟨_, rfl, ?_⟩
          replace hB := Bl.next hB hb23
          replace k12 := k12.below hb23
          replace hI := hI.below hb23
          replace hJ := hJ.below hb23
          refine g_pv 1 [(8, .bool true)] (by kernel_rfl) ?_
          refine wpList_nil ?_
          refine wp_ret (then_ret ?_)
          exact g_ret (.bool true) (by kernel_rfl) (by kernel_rfl) ⟨rfl, hB⟩
        · refine ⟨_, rfl, ?_⟩
          replace hB := Bl.next hB hb9
          replace hI := hI.below hb9
          replace hJ := hJ.below hb9
          replace hA := hA.mono hw9
          have hgood := rng_good (f := f.toNat) (K := (l.length / 256)) (by omega) (by omega)
          refine g_pv 5 [(39, .tuple #[.pointer (some ⟨ba, 0, none⟩), .nilIface]), (43, .pointer (some ⟨ba, 0, none⟩)), (44, .nilIface), (11, .pointer (some ⟨ba, 0, none⟩)), (12, .nilIface)] (by kernel_rfl) ?_
          refine wpList_nil ?_
          refine wp_seq ?_
          refine wp_region_lit ?_
          refine g_pv 2 [(46, .pointer (some ⟨bj, 0, none⟩)), (47, .int .i64 f)] (by kernel_rfl) ?_
          have hw7 : w.heap.size ≤ (W9).heap.size := hB.size
          refine g_op (by kernel_rfl) (op_call (lb := #[]) 10 #[.pointer (some ⟨bj, 0, none⟩), .int .i64 f] rfl (by kernel_rfl) (fun _ _ => by kernel_rfl) (by kernel_rfl) ((ref_NewN bj pj (l.length / 256) cj (l.take (l.length / 256 * 256)) _ f _ hJ hf).mono ?_))
          rintro e W24 ⟨bc, pg, cg, rfl, hb24, hR⟩
          refine ⟨_, rfl, ?_⟩
          replace hB := Bl.next hB hb24
          replace hI := hI.below hb24
          replace hJ := hJ.below hb24
          replace hA := hA.below hb24
          replace hR := hR.mono hw7
          refine g_pv 3 [(45, .tuple #[.pointer (some ⟨bc, 0, none⟩), .agg #[.slice none 0 0, .int .i64 0]]), (49, .pointer (some ⟨bc, 0, none⟩)), (50, .agg #[.slice none 0 0, .int .i64 0])] (by kernel_rfl) ?_
          refine g_op (by kernel_rfl) (op_alloc [.slice none 0 0, .int .i64 0] rfl (by kernel_rfl) ?_)
          intro b25 W25 n25
          have g25 := n25.ge hB
          replace hB := Bl.next hB n25.below
          replace hI := hI.below n25.below
          replace hJ := hJ.below n25.below
          replace hA := hA.below n25.below
          replace hR := hR.below n25.below
          have k25 := n25.blk
          refine g_pv 1 [(13, .pointer (some ⟨bc, 0, none⟩))] (by kernel_rfl) ?_
          refine g_op (by kernel_rfl) (op_storev (b := b25) (off := 0) [.slice none 0 0, .int .i64 0] rfl (by kernel_rfl) (by kernel_rfl) (by kernel_rfl) (by first | decide | simp [Value.oneCell']) k25 (by first | decide | simp) ?_)
          intro W26 u26 k26
          change Blk _ _ [.slice none 0 0, .int .i64 0] _ at k26
          replace hB := u26.below hB g25
          replace hI := hI.only (Only.of_upd (T := [33]) u26 k25 (by decide)) (by decide)
          replace hJ := hJ.only (Only.of_upd (T := [33]) u26 k25 (by decide)) (by decide)
          replace hA := hA.only (Only.of_upd (T := [33]) u26 k25 (by decide)) (by decide)
          replace hR := hR.only (Only.of_upd (T := [33]) u26 k25 (by decide)) (by decide)
          refine wpList_nil ?_
          refine wp_seq ?_
          refine wp_seq ?_
          refine wp_region_lit ?_
          refine g_pv 3 [(51, .slice aZ Z.length cZ), (52, .int .i64 (↑Z.length : Int)), (53, .bool (decide ((↑Z.length : Int) > (0 : Int))))] (by kernel_rfl) ?_
          refine wpList_nil ?_
          refine wp_cond_split (t := decide ((↑Z.length : Int) > (0 : Int))) (by kernel_rfl) (fun hh => absurd (hh.symm.trans (show (decide ((↑Z.length : Int) > (0 : Int)) : Bool) = false from decide_eq_false (by omega))) (by decide)) (fun _ => ?_)
          refine wp_skip ?_
          refine wp_seq ?_
          refine wp_seq ?_
          replace hB := Bl.next hB (below_drew W26)
          replace k26 := k26.below (below_drew W26)
          replace hI := hI.below (below_drew W26)
          replace hJ := hJ.below (below_drew W26)
          replace hA := hA.below (below_drew W26)
          replace hR := hR.below (below_drew W26)
          refine h_reg (Below (W26.drew).heap.size (W26.drew)) 12 rfl #[false, false, false, false, false, false, false, false, false, false, false, false] rfl (by kernel_rfl) (Below.refl _ _) ?_
          intro hS28
          have hBd30 := hB
          have kd30_b25 := k26
          refine h_pv [0] 11 rfl #[true, false, false, false, false, false, false, false, false, false, false, false] [(66, .nilIface)] (by kernel_rfl) (fun _ _ _ _ _ h => h) (by kernel_rfl) hS28 ?_
          refine h_loadv (b := b25) (off := 0) 2 10 rfl [.slice none 0 0, .int .i64 0] _ rfl (by kernel_rfl) (by kernel_rfl) (by kernel_rfl) (fun _ _ _ _ _ h => h) (by kernel_rfl) rfl (by kernel_rfl) Tryz.underlying33 rfl (by kernel_rfl) (fun V hV => (k26.below hV).whole) hS28 ?_
          refine h_one 1 9 rfl (by kernel_rfl) rfl (by kernel_rfl) (op_call (lb := #[]) 15 #[.nilIface] rfl (by kernel_rfl) (fun _ _ => by kernel_rfl) (by kernel_rfl) ((told_z 0 .nilIface _ (hg.below hB) rfl).mono ?_))
          rintro e W31 ⟨vt31, rfl, hb31, hq⟩
          refine ⟨_, rfl, ?_⟩
          replace hB := Bl.next hB hb31
          replace k26 := k26.below hb31
          replace hI := hI.below hb31
          replace hJ := hJ.below hb31
          replace hA := hA.below hb31
          replace hR := hR.below hb31
          have hS32 : Below (W26.drew).heap.size (W26.drew) (W31) := Bl.next hS28 hb31
          refine ⟨hS32, ?_⟩
          refine h_str (Below (W31).heap.size (W31)) (fun V hV => Bl.next hS32 hV) ?_
          have hS33 : Below (W31).heap.size (W31) (W31) := Below.refl _ _
          refine h_one 3 8 rfl (by kernel_rfl) rfl (by kernel_rfl) (op_call (lb := #[]) 14 #[vt31, .agg #[.slice none 0 0, .int .i64 0]] rfl (by kernel_rfl) (fun _ _ => by kernel_rfl) (by kernel_rfl) ((ref05_Same [] 0 vt31 _ _ hq ⟨_, rfl, ints_nil0 _⟩).mono ?_))
          rintro e W34 ⟨rfl, hb34⟩
          refine ⟨_, rfl, ?_⟩
          replace hB := Bl.next hB hb34
          replace k26 := k26.below hb34
          replace hI := hI.below hb34
          replace hJ := hJ.below hb34
          replace hA := hA.below hb34
          replace hR := hR.below hb34
          replace hq := hq.below hb34
          have hS35 : Below (W31).heap.size (W31) (W34) := Bl.next hS33 hb34
          refine ⟨hS35, ?_⟩
          refine h_str (Below (W34).heap.size (W34)) (fun V hV => Bl.next hS35 hV) ?_
          have hS36 : Below (W34).heap.size (W34) (W34) := Below.refl _ _
          refine h_pv [4, 5, 6, 7, 8, 9, 10, 11] 0 rfl #[true, true, true, true, true, true, true, true, true, true, true, true] [(70, .bool false), (71, .bool false), (72, .pointer (some ⟨ba, 0, none⟩)), (73, .bool false), (74, .pointer (some ⟨bc, 0, none⟩)), (75, .bool false), (76, .bool false), (77, .bool false)] (by kernel_rfl) (fun _ _ _ _ _ h => h) (by kernel_rfl) hS36 ?_
          refine h_done _ (by kernel_rfl) ?_
          refine wp_cond_false (by kernel_rfl) ?_
          refine wp_skip ?_
          refine wp_seq ?_
          refine wp_seq ?_
          refine wp_region_lit ?_
          refine g_pv 2 [(78, .pointer (some ⟨ba, 0, none⟩)), (79, .bool false)] (by kernel_rfl) ?_
          refine wpList_nil ?_
          refine wp_cond_false (by kernel_rfl) ?_
          refine wp_skip ?_
          refine wp_seq ?_
          refine wp_seq ?_
          refine wp_region_lit ?_
          refine g_pv 1 [(15, .int .i64 0)] (by kernel_rfl) ?_
          refine wpList_nil ?_
          refine wp_block ?_
          refine g_fr ⟨#[.slice a l.length c, .int .i64 f, .slice aZ Z.length cZ, .slice aT T.length cT, undef, undef, undef, undef, .bool false, .pointer (some ⟨bi, 0, none⟩), .pointer (some ⟨bj, 0, none⟩), .pointer (some ⟨ba, 0, none⟩), .nilIface, .pointer (some ⟨bc, 0, none⟩), .pointer (some ⟨b25, 0, none⟩), .int .i64 0, undef, undef, undef, undef, undef, .slice a l.length c, .int .i64 (↑l.length : Int), .bool false, .bool false, .slice aT T.length cT, .int .i64 (↑T.length : Int), .bool false, .bool false, .bool false, .slice aZ Z.length cZ, .int .i64 (↑Z.length : Int), .bool (decide ((↑Z.length : Int) > (100 : Int))), .bool (decide ((↑Z.length : Int) > (100 : Int))), undef, .slice a l.length c, .pointer (some ⟨bi, 0, none⟩), .slice a l.length c, .pointer (some ⟨bj, 0, none⟩), .tuple #[.pointer (some ⟨ba, 0, none⟩), .nilIface], .pointer (some ⟨bi, 0, none⟩), .int .i64 f, .tuple #[.pointer (some ⟨ba, 0, none⟩), .nilIface], .pointer (some ⟨ba, 0, none⟩), .nilIface, .tuple #[.pointer (some ⟨bc, 0, none⟩), .agg #[.slice none 0 0, .int .i64 0]], .pointer (some ⟨bj, 0, none⟩), .int .i64 f, .tuple #[.pointer (some ⟨bc, 0, none⟩), .agg #[.slice none 0 0, .int .i64 0]], .pointer (some ⟨bc, 0, none⟩), .agg #[.slice none 0 0, .int .i64 0], .slice aZ Z.length cZ, .int .i64 (↑Z.length : Int), .bool (decide ((↑Z.length : Int) > (0 : Int))), undef, undef, undef, undef, undef, undef, undef, undef, undef, undef, undef, undef, .nilIface, vt31, .agg #[.slice none 0 0, .int .i64 0], .bool true, .bool false, .bool false, .pointer (some ⟨ba, 0, none⟩), .bool false, .pointer (some ⟨bc, 0, none⟩), .bool false, .bool false, .bool false, .pointer (some ⟨ba, 0, none⟩), .bool false, undef, undef, undef, undef, undef, undef, undef, undef, undef, undef, undef, undef, undef, undef, undef, undef, undef, undef, undef, undef, undef, undef, undef, undef, undef, undef, undef, undef, undef, undef, undef, undef, undef, undef, undef, undef, undef, undef, undef, undef, undef, undef, undef, undef, undef, undef, undef, undef, undef, undef, undef, undef, undef, undef, undef, undef, undef, undef, undef, undef, undef, undef, undef, undef, undef, undef, undef, undef, undef, undef, undef, undef, undef, undef, undef, undef, undef, undef, undef, undef, undef, undef, undef, undef, undef, undef, undef, undef, undef, undef, undef, undef, undef, undef, undef, undef, undef, undef, undef, undef, undef, undef, undef, undef, undef, undef], []⟩ (by kernel_rfl) ?_
          refine wp_loop (fun act V => ∃ (i k : Nat) (lc : List UInt8) (fa : Option Addr) (m fc : Nat) (x37 : Nat → Value), act = ⟨#[.slice a l.length c, .int .i64 f, .slice aZ Z.length cZ, .slice aT T.length cT, undef, undef, undef, undef, (x37 0), .pointer (some ⟨bi, 0, none⟩), .pointer (some ⟨bj, 0, none⟩), .pointer (some ⟨ba, 0, none⟩), .nilIface, .pointer (some ⟨bc, 0, none⟩), .pointer (some ⟨b25, 0, none⟩), .int .i64 (↑i : Int), (x37 1), (x37 2), (x37 3), (x37 4), (x37 5), .slice a l.length c, .int .i64 (↑l.length : Int), .bool false, .bool false, .slice aT T.length cT, .int .i64 (↑T.length : Int), .bool false, .bool false, .bool false, .slice aZ Z.length cZ, .int .i64 (↑Z.length : Int), .bool (decide ((↑Z.length : Int) > (100 : Int))), .bool (decide ((↑Z.length : Int) > (100 : Int))), undef, .slice a l.length c, .pointer (some ⟨bi, 0, none⟩), .slice a l.length c, .pointer (some ⟨bj, 0, none⟩), .tuple #[.pointer (some ⟨ba, 0, none⟩), .nilIface], .pointer (some ⟨bi, 0, none⟩), .int .i64 f, .tuple #[.pointer (some ⟨ba, 0, none⟩), .nilIface], .pointer (some ⟨ba, 0, none⟩), .nilIface, .tuple #[.pointer (some ⟨bc, 0, none⟩), .agg #[.slice none 0 0, .int .i64 0]], .pointer (some ⟨bj, 0, none⟩), .int .i64 f, .tuple #[.pointer (some ⟨bc, 0, none⟩), .agg #[.slice none 0 0, .int .i64 0]], .pointer (some ⟨bc, 0, none⟩), .agg #[.slice none 0 0, .int .i64 0], .slice aZ Z.length cZ, .int .i64 (↑Z.length : Int), .bool (decide ((↑Z.length : Int) > (0 : Int))), undef, undef, undef, undef, undef, undef, undef, undef, undef, undef, undef, undef, .nilIface, vt31, .agg #[.slice none 0 0, .int .i64 0], .bool true, .bool false, .bool false, .pointer (some ⟨ba, 0, none⟩), .bool false, .pointer (some ⟨bc, 0, none⟩), .bool false, .bool false, .bool false, .pointer (some ⟨ba, 0, none⟩), .bool false, undef, (x37 6), (x37 7), (x37 8), (x37 9), (x37 10), (x37 11), (x37 12), (x37 13), (x37 14), (x37 15), (x37 16), (x37 17), (x37 18), (x37 19), (x37 20), (x37 21), (x37 22), (x37 23), (x37 24), (x37 25), (x37 26), (x37 27), (x37 28), (x37 29), (x37 30), (x37 31), (x37 32), (x37 33), (x37 34), (x37 35), (x37 36), (x37 37), (x37 38), (x37 39), (x37 40), (x37 41), (x37 42), (x37 43), (x37 44), (x37 45), (x37 46), (x37 47), (x37 48), (x37 49), (x37 50), (x37 51), (x37 52), (x37 53), (x37 54), (x37 55), (x37 56), (x37 57), (x37 58), (x37 59), (x37 60), (x37 61), (x37 62), (x37 63), (x37 64), (x37 65), (x37 66), (x37 67), (x37 68), (x37 69), (x37 70), (x37 71), (x37 72), (x37 73), (x37 74), (x37 75), (x37 76), (x37 77), (x37 78), (x37 79), (x37 80), (x37 81), (x37 82), (x37 83), (x37 84), (x37 85), (x37 86), (x37 87), (x37 88), (x37 89), (x37 90), undef, undef, undef, undef, undef, undef, undef, undef, undef, undef, undef, undef, undef, undef, undef, undef, undef, undef, undef, undef], []⟩ ∧ Below w.heap.size w V ∧ Blk V b25 ([.slice none 0 0, .int .i64 0]) 33 ∧ AlG w.heap.size ba bi pa ((l.length / 256) - f.toNat) ca k (rngJ f.toNat ((l.length / 256) - f.toNat)) V ∧ RAl w.heap.size bc bj pg ((l.length / 256) - f.toNat) cg fa m fc k (rngJ f.toNat ((l.length / 256) - f.toNat)) V ∧ ImgR w.heap.size bi pi ((l.length / 256) * 256) ci lc V ∧ RefI w.heap.size bj pj (l.length / 256) cj lc V ∧ i ≤ T.length) (fun act V => T.length - ((intOf (act.tmps.getD 15 undef))).toNat) ⟨0, 0, _, _, _, _, (pk [.bool false, undef, undef, undef, undef, undef, undef, undef, undef, undef, undef, undef, undef, undef, undef, undef, undef, undef, undef, undef, undef, undef, undef, undef, undef, undef, undef, undef, undef, undef, undef, undef, undef, undef, undef, undef, undef, undef, undef, undef, undef, undef, undef, undef, undef, undef, undef, undef, undef, undef, undef, undef, undef, undef, undef, undef, undef, undef, undef, undef, undef, undef, undef, undef, undef, undef, undef, undef, undef, undef, undef, undef, undef, undef, undef, undef, undef, undef, undef, undef, undef, undef, undef, undef, undef, undef, undef, undef, undef, undef, undef]), rfl, hB, k26, hA, hR, hI, hJ, Nat.zero_le _⟩ ?_
          rintro _ W37 ⟨i, k, lc, fa, m, fc, x37, rfl, hB, k37_b25, hA, hR, hI, hJ, hi⟩
          refine wp_seq ?_
          refine wp_seq ?_
          refine wp_region_lit ?_
          refine g_pv 4 [(81, .int .i64 (↑i : Int)), (82, .slice aT T.length cT), (83, .int .i64 (↑T.length : Int)), (84, .bool (decide ((↑i : Int) < (↑T.length : Int))))] (by kernel_rfl) ?_
          refine wpList_nil ?_
          refine wp_cond_split (t := decide ((↑i : Int) < (↑T.length : Int))) (by kernel_rfl) (fun hc38 => ?_) (fun hc38 => ?_)
          · have hc38 := of_decide_eq_true hc38
            refine wp_skip ?_
            refine wp_seq ?_
            refine wp_block ?_
            refine wp_seq ?_
            refine wp_region_lit ?_
            refine g_pv 2 [(87, .slice aT T.length cT), (88, .int .i64 (↑i : Int))] (by kernel_rfl) ?_
            refine g_op (by kernel_rfl) (op_val (run_indexA (size := 3) (k := i) (b := aT) (n := T.length) (c := cT) (i := (↑i : Int)) (ki := .i64) rfl (by kernel_rfl) (by kernel_rfl) rfl (by omega) (Sts.cell hT stC_len stD (k := i) (i := 0) (by omega) rfl).1 Tryz.underlying53 (by kernel_rfl) _) ?_)
            refine g_op (by kernel_rfl) (op_val (run_loadSt (k := i) stC_len stD _ rfl (by kernel_rfl) (hT.below hB) (by omega) (by decide) Tryz.underlying60 rfl (by kernel_rfl)) ?_)
            refine g_op (by kernel_rfl) (op_alloc [.bool false, .int .i64 0, .slice none 0 0] rfl (by kernel_rfl) ?_)
            intro b39 W39 n39
            have d39_b25 := n39.ne k37_b25
            have g39 := n39.ge hB
            replace hB := Bl.next hB n39.below
            replace k37_b25 := k37_b25.below n39.below
            replace hI := hI.below n39.below
            replace hJ := hJ.below n39.below
            replace hA := hA.below n39.below
            replace hR := hR.below n39.below
            have k39 := n39.blk
            refine g_op (by kernel_rfl) (op_storev (b := b39) (off := 0) [.bool ((T.getD i stD).1), .int .i64 ((T.getD i stD).2.1), .slice ((T.getD i stD).2.2.1) ((T.getD i stD).2.2.2.2.length) ((T.getD i stD).2.2.2.1)] rfl (by kernel_rfl) (by kernel_rfl) (by kernel_rfl) (by first | decide | simp [Value.oneCell']) k39 (by first | decide | simp) ?_)
            intro W40 u40 k40
            change Blk _ _ [.bool ((T.getD i stD).1), .int .i64 ((T.getD i stD).2.1), .slice ((T.getD i stD).2.2.1) ((T.getD i stD).2.2.2.2.length) ((T.getD i stD).2.2.2.1)] _ at k40
            replace hB := u40.below hB g39
            replace k37_b25 := u40.blk k37_b25 (Ne.symm (Ne.symm d39_b25))
            replace hI := hI.only (Only.of_upd (T := [60]) u40 k39 (by decide)) (by decide)
            replace hJ := hJ.only (Only.of_upd (T := [60]) u40 k39 (by decide)) (by decide)
            replace hA := hA.only (Only.of_upd (T := [60]) u40 k39 (by decide)) (by decide)
            replace hR := hR.only (Only.of_upd (T := [60]) u40 k39 (by decide)) (by decide)
            refine wpList_nil ?_
            refine wp_seq ?_
            refine wp_seq ?_
            refine wp_region_lit ?_
            refine g_pv 1 [(91, .pointer (some ⟨b39, 2, none⟩))] (by kernel_rfl) ?_
            refine g_op (by kernel_rfl) (op_load ⟨b39, 2, none⟩ (.slice ((T.getD i stD).2.2.1) ((T.getD i stD).2.2.2.2.length) ((T.getD i stD).2.2.2.1)) rfl (by kernel_rfl) (by kernel_rfl) (k40.cell (i := 2) rfl) ?_)
            refine g_pv 2 [(93, .int .i64 (↑((T.getD i stD).2.2.2.2.length) : Int)), (94, .bool (decide ((↑((T.getD i stD).2.2.2.2.length) : Int) > (600 : Int))))] (by kernel_rfl) ?_
            refine wpList_nil ?_
            refine wp_cond_split (t := decide ((↑((T.getD i stD).2.2.2.2.length) : Int) > (600 : Int))) (by kernel_rfl) (fun hc41 => ?_) (fun hc41 => ?_)
            · have hc41 := of_decide_eq_true hc41
              refine wp_seq ?_
              refine wp_region_lit ?_
              refine g_op (by kernel_rfl) (op_call (lb := #[]) 20 #[] rfl (by kernel_rfl) (fun _ _ => by kernel_rfl) (by kernel_rfl) ((lives16 _).mono ?_))
              rintro e W42 ⟨rfl, hb42⟩
              refine ⟨_, rfl, ?_⟩
              replace hB := Bl.next hB hb42
              replace k37_b25 := k37_b25.below hb42
              replace k40 := k40.below hb42
              replace hI := hI.below hb42
              replace hJ := hJ.below hb42
              replace hA := hA.below hb42
              replace hR := hR.below hb42
              refine g_pv 1 [(8, .bool true)] (by kernel_rfl) ?_
              refine wpList_nil ?_
              refine wp_ret (then_ret (inBlock_ret (then_ret (then_ret (inBlock_ret (then_ret ?_))))))
              exact g_ret (.bool true) (by kernel_rfl) (by kernel_rfl) ⟨rfl, hB⟩
            · have hc41 := of_decide_eq_false hc41
              refine wp_skip ?_
              refine wp_seq ?_
              refine wp_region_lit ?_
              refine g_pv 2 [(17, .int .i64 0), (18, .nilIface)] (by kernel_rfl) ?_
              refine wpList_nil ?_
              refine wp_seq ?_
              refine wp_region_lit ?_
              refine g_pv 1 [(96, .agg #[.slice none 0 0, .int .i64 0])] (by kernel_rfl) ?_
              refine g_op (by kernel_rfl) (op_alloc [.slice none 0 0, .int .i64 0] rfl (by kernel_rfl) ?_)
              intro b43 W43 n43
              have d43_b25 := n43.ne k37_b25
              have d43_b39 := n43.ne k40
              have g43 := n43.ge hB
              replace hB := Bl.next hB n43.below
              replace k37_b25 := k37_b25.below n43.below
              replace k40 := k40.below n43.below
              replace hI := hI.below n43.below
              replace hJ := hJ.below n43.below
              replace hA := hA.below n43.below
              replace hR := hR.below n43.below
              have k43 := n43.blk
              refine g_pv 1 [(19, .int .i64 0)] (by kernel_rfl) ?_
              refine g_op (by kernel_rfl) (op_storev (b := b43) (off := 0) [.slice none 0 0, .int .i64 0] rfl (by kernel_rfl) (by kernel_rfl) (by kernel_rfl) (by first | decide | simp [Value.oneCell']) k43 (by first | decide | simp) ?_)
              intro W44 u44 k44
              change Blk _ _ [.slice none 0 0, .int .i64 0] _ at k44
              replace hB := u44.below hB g43
              replace k37_b25 := u44.blk k37_b25 (Ne.symm (Ne.symm d43_b25))
              replace k40 := u44.blk k40 (Ne.symm (Ne.symm d43_b39))
              replace hI := hI.only (Only.of_upd (T := [33]) u44 k43 (by decide)) (by decide)
              replace hJ := hJ.only (Only.of_upd (T := [33]) u44 k43 (by decide)) (by decide)
              replace hA := hA.only (Only.of_upd (T := [33]) u44 k43 (by decide)) (by decide)
              replace hR := hR.only (Only.of_upd (T := [33]) u44 k43 (by decide)) (by decide)
              refine wpList_nil ?_
              refine wp_seq ?_
              refine wp_seq ?_
              refine wp_region_lit ?_
              refine g_pv 1 [(97, .pointer (some ⟨b39, 0, none⟩))] (by kernel_rfl) ?_
              refine g_op (by kernel_rfl) (op_load ⟨b39, 0, none⟩ (.bool ((T.getD i stD).1)) rfl (by kernel_rfl) (by kernel_rfl) (k40.cell (i := 0) rfl) ?_)
              refine wpList_nil ?_
              refine wp_cond_split (t := (T.getD i stD).1) (by kernel_rfl) (fun hc45 => ?_) (fun hc45 => ?_)
              · refine wp_seq ?_
                refine wp_region_lit ?_
                refine g_pv 1 [(100, .pointer (some ⟨ba, 0, none⟩))] (by kernel_rfl) ?_
                refine g_op (by kernel_rfl) (op_call (lb := #[]) 25 #[.pointer (some ⟨ba, 0, none⟩)] rfl (by kernel_rfl) (fun _ _ => by kernel_rfl) (by kernel_rfl) ((alloc_NextG w.heap.size ba bi pa ((l.length / 256) - f.toNat) ca k (rngJ f.toNat ((l.length / 256) - f.toNat)) _ hA (fun hk => good_nn hgood hLN hk) hB.size).mono ?_))
                rintro e W46 ⟨ve, rfl, hb46, hO46, hA, hv⟩
                refine ⟨_, rfl, ?_⟩
                replace hB := hB.trans hb46
                replace k37_b25 := k37_b25.only hO46 (by decide)
                replace k40 := k40.only hO46 (by decide)
                replace k44 := k44.only hO46 (by decide)
                replace hI := hI.only hO46 (by decide)
                replace hJ := hJ.only hO46 (by decide)
                replace hR := hR.only hO46 (by decide)
                refine g_pv 5 [(99, .tuple #[.int .i64 (nxV k ((l.length / 256) - f.toNat) (rngJ f.toNat ((l.length / 256) - f.toNat))), ve]), (102, .int .i64 (nxV k ((l.length / 256) - f.toNat) (rngJ f.toNat ((l.length / 256) - f.toNat)))), (103, ve), (17, .int .i64 (nxV k ((l.length / 256) - f.toNat) (rngJ f.toNat ((l.length / 256) - f.toNat)))), (18, ve)] (by kernel_rfl) ?_
                refine wpList_nil ?_
                refine wp_region_lit ?_
                refine g_pv 1 [(105, .pointer (some ⟨bc, 0, none⟩))] (by kernel_rfl) ?_
                refine g_op (by kernel_rfl) (op_call (lb := #[]) 26 #[.pointer (some ⟨bc, 0, none⟩)] rfl (by kernel_rfl) (fun _ _ => by kernel_rfl) (by kernel_rfl) ((ref_Take w.heap.size bc bj pg ((l.length / 256) - f.toNat) cg fa m fc k (rngJ f.toNat ((l.length / 256) - f.toNat)) _ hR hB.size).mono ?_))
                rintro e W47 ⟨fa2, m2, fc2, rfl, hb47, hO47, hR⟩
                refine ⟨_, rfl, ?_⟩
                replace hB := hB.trans hb47
                replace k37_b25 := k37_b25.only hO47 (by decide)
                replace k40 := k40.only hO47 (by decide)
                replace k44 := k44.only hO47 (by decide)
                replace hI := hI.only hO47 (by decide)
                replace hJ := hJ.only hO47 (by decide)
                replace hA := hA.only hO47 (by decide)
                replace hv := hv.only hO47 (by decide)
                have hRm := hR.hm
                refine g_pv 4 [(104, .tuple #[.int .i64 (nxV k ((l.length / 256) - f.toNat) (rngJ f.toNat ((l.length / 256) - f.toNat))), .agg #[.slice none 0 0, .int .i64 (nxE k ((l.length / 256) - f.toNat))]]), (107, .int .i64 (nxV k ((l.length / 256) - f.toNat) (rngJ f.toNat ((l.length / 256) - f.toNat)))), (108, .agg #[.slice none 0 0, .int .i64 (nxE k ((l.length / 256) - f.toNat))]), (19, .int .i64 (nxV k ((l.length / 256) - f.toNat) (rngJ f.toNat ((l.length / 256) - f.toNat))))] (by kernel_rfl) ?_
                refine g_op (by kernel_rfl) (op_storev (b := b43) (off := 0) [.slice none 0 0, .int .i64 (nxE k ((l.length / 256) - f.toNat))] rfl (by kernel_rfl) (by kernel_rfl) (by kernel_rfl) (by first | decide | simp [Value.oneCell']) k44 (by first | decide | simp) ?_)
                intro W48 u48 k48
                change Blk _ _ [.slice none 0 0, .int .i64 (nxE k ((l.length / 256) - f.toNat))] _ at k48
                replace hB := u48.below hB g43
                replace k37_b25 := u48.blk k37_b25 (Ne.symm (Ne.symm d43_b25))
                replace k40 := u48.blk k40 (Ne.symm (Ne.symm d43_b39))
                replace hI := hI.only (Only.of_upd (T := [33]) u48 k44 (by decide)) (by decide)
                replace hJ := hJ.only (Only.of_upd (T := [33]) u48 k44 (by decide)) (by decide)
                replace hA := hA.only (Only.of_upd (T := [33]) u48 k44 (by decide)) (by decide)
                replace hR := hR.only (Only.of_upd (T := [33]) u48 k44 (by decide)) (by decide)
                replace hv := hv.only (Only.of_upd (T := [33]) u48 k44 (by decide)) (by decide)
                refine wpList_nil ?_
                refine wp_seq ?_
                replace hB := Bl.next hB (below_drew W48)
                replace k37_b25 := k37_b25.below (below_drew W48)
                replace k40 := k40.below (below_drew W48)
                replace k48 := k48.below (below_drew W48)
                replace hI := hI.below (below_drew W48)
                replace hJ := hJ.below (below_drew W48)
                replace hA := hA.below (below_drew W48)
                replace hR := hR.below (below_drew W48)
                replace hv := hv.below (below_drew W48)
                refine h_reg (Below (W48.drew).heap.size (W48.drew)) 39 rfl #[false, false, false, false, false, false, false, false, false, false, false, false, false, false, false, false, false, false, false, false, false, false, false, false, false, false, false, false, false, false, false, false, false, false, false, false, false, false, false] rfl (by kernel_rfl) (Below.refl _ _) ?_
                intro hS49
                have hBd51 := hB
                have kd51_b25 := k37_b25
                have kd51_b39 := k40
                have kd51_b43 := k48
                refine h_pv [0, 1, 2, 3] 35 rfl #[true, true, true, true, false, false, false, false, false, false, false, false, false, false, false, false, false, false, false, false, false, false, false, false, false, false, false, false, false, false, false, false, false, false, false, false, false, false, false] [(127, .int .i64 (nxV k ((l.length / 256) - f.toNat) (rngJ f.toNat ((l.length / 256) - f.toNat)))), (128, .int .i64 (nxV k ((l.length / 256) - f.toNat) (rngJ f.toNat ((l.length / 256) - f.toNat)))), (129, .bool ((nxV k ((l.length / 256) - f.toNat) (rngJ f.toNat ((l.length / 256) - f.toNat))) != (nxV k ((l.length / 256) - f.toNat) (rngJ f.toNat ((l.length / 256) - f.toNat))))), (130, .bool ((nxV k ((l.length / 256) - f.toNat) (rngJ f.toNat ((l.length / 256) - f.toNat))) != (nxV k ((l.length / 256) - f.toNat) (rngJ f.toNat ((l.length / 256) - f.toNat)))))] (by kernel_rfl) (fun _ _ _ _ _ h => h) (by kernel_rfl) hS49 ?_
                have hc52 : (((nxV k ((l.length / 256) - f.toNat) (rngJ f.toNat ((l.length / 256) - f.toNat))) != (nxV k ((l.length / 256) - f.toNat) (rngJ f.toNat ((l.length / 256) - f.toNat)))) : Bool) = false := by simp
                refine h_b [129, 130] _ _ hc52 (by kernel_rfl) ?_
                refine h_pv [4] 34 rfl #[true, true, true, true, true, false, false, false, false, false, false, false, false, false, false, false, false, false, false, false, false, false, false, false, false, false, false, false, false, false, false, false, false, false, false, false, false, false, false] [(131, ve)] (by kernel_rfl) (fun _ _ _ _ _ h => h) (by kernel_rfl) hS49 ?_
                refine h_loadv (b := b43) (off := 0) 6 33 rfl [.slice none 0 0, .int .i64 (nxE k ((l.length / 256) - f.toNat))] _ rfl (by kernel_rfl) (by kernel_rfl) (by kernel_rfl) (fun _ _ _ _ _ h => h) (by kernel_rfl) rfl (by kernel_rfl) Tryz.underlying33 rfl (by kernel_rfl) (fun V hV => (k48.below hV).whole) hS49 ?_
                refine h_one 5 32 rfl (by kernel_rfl) rfl (by kernel_rfl) (op_call (lb := #[]) 15 #[ve] rfl (by kernel_rfl) (fun _ _ => by kernel_rfl) (by kernel_rfl) ((told_z (nxE k ((l.length / 256) - f.toNat)) _ _ (hg.below hB) hv).mono ?_))
                rintro e W53 ⟨vt53, rfl, hb53, hq⟩
                refine ⟨_, rfl, ?_⟩
                replace hB := Bl.next hB hb53
                replace k37_b25 := k37_b25.below hb53
                replace k40 := k40.below hb53
                replace k48 := k48.below hb53
                replace hI := hI.below hb53
                replace hJ := hJ.below hb53
                replace hA := hA.below hb53
                replace hR := hR.below hb53
                replace hv := hv.below hb53
                have hS54 : Below (W48.drew).heap.size (W48.drew) (W53) := Bl.next hS49 hb53
                refine ⟨hS54, ?_⟩
                refine h_str (Below (W53).heap.size (W53)) (fun V hV => Bl.next hS54 hV) ?_
                have hS55 : Below (W53).heap.size (W53) (W53) := Below.refl _ _
                refine h_one 7 31 rfl (by kernel_rfl) rfl (by kernel_rfl) (op_call (lb := #[]) 14 #[vt53, .agg #[.slice none 0 0, .int .i64 (nxE k ((l.length / 256) - f.toNat))]] rfl (by kernel_rfl) (fun _ _ => by kernel_rfl) (by kernel_rfl) ((ref05_Same [] (nxE k ((l.length / 256) - f.toNat)) vt53 _ _ hq ⟨_, rfl, ints_nil0 _⟩).mono ?_))
                rintro e W56 ⟨rfl, hb56⟩
                refine ⟨_, rfl, ?_⟩
                replace hB := Bl.next hB hb56
                replace k37_b25 := k37_b25.below hb56
                replace k40 := k40.below hb56
                replace k48 := k48.below hb56
                replace hI := hI.below hb56
                replace hJ := hJ.below hb56
                replace hA := hA.below hb56
                replace hR := hR.below hb56
                replace hv := hv.below hb56
                replace hq := hq.below hb56
                have hS57 : Below (W53).heap.size (W53) (W56) := Bl.next hS55 hb56
                refine ⟨hS57, ?_⟩
                refine h_str (Below (W56).heap.size (W56)) (fun V hV => Bl.next hS57 hV) ?_
                have hS58 : Below (W56).heap.size (W56) (W56) := Below.refl _ _
                refine h_pv [8, 9, 10, 11, 13, 14, 15] 24 rfl #[true, true, true, true, true, true, true, true, true, true, true, true, false, true, true, true, false, false, false, false, false, false, false, false, false, false, false, false, false, false, false, false, false, false, false, false, false, false, false] [(135, .bool false), (136, .bool false), (137, .bool false), (138, .pointer (some ⟨ba, 0, none⟩)), (140, .pointer (some ⟨bc, 0, none⟩)), (141, .pointer (some ⟨bc, 0, none⟩)), (142, .pointer (some ⟨bc, 1, none⟩))] (by kernel_rfl) (fun _ _ _ _ _ h => h) (by kernel_rfl) hS58 ?_
                refine h_load 16 23 rfl ⟨bc, 1, none⟩ (.slice fa2 m2 fc2) rfl (by kernel_rfl) (by kernel_rfl) (by kernel_rfl) (fun _ _ _ _ _ h => h) (by kernel_rfl) rfl (by kernel_rfl) (by kernel_rfl) (fun V hV => ((hR.below hV).blk.cell (i := 1) rfl)) hS58 ?_
                refine h_pv [17] 22 rfl #[true, true, true, true, true, true, true, true, true, true, true, true, false, true, true, true, true, true, false, false, false, false, false, false, false, false, false, false, false, false, false, false, false, false, false, false, false, false, false] [(144, .int .i64 (↑m2 : Int))] (by kernel_rfl) (fun _ _ _ _ _ h => h) (by kernel_rfl) hS58 ?_
                refine h_one 12 21 rfl (by kernel_rfl) rfl (by kernel_rfl) (op_call (lb := #[]) 29 #[.pointer (some ⟨ba, 0, none⟩)] rfl (by kernel_rfl) (fun _ _ => by kernel_rfl) (by kernel_rfl) ((alloc_Left ba bi pa ((l.length / 256) - f.toNat) ca (nxK k ((l.length / 256) - f.toNat)) _ hA.blk hA.hk).mono ?_))
                rintro e W59 ⟨rfl, hb59⟩
                refine ⟨_, rfl, ?_⟩
                replace hB := Bl.next hB hb59
                replace k37_b25 := k37_b25.below hb59
                replace k40 := k40.below hb59
                replace k48 := k48.below hb59
                replace hI := hI.below hb59
                replace hJ := hJ.below hb59
                replace hA := hA.below hb59
                replace hR := hR.below hb59
                replace hv := hv.below hb59
                have hS60 : Below (W56).heap.size (W56) (W59) := Bl.next hS58 hb59
                refine ⟨hS60, ?_⟩
                refine h_str (Below (W59).heap.size (W59)) (fun V hV => Bl.next hS60 hV) ?_
                have hS61 : Below (W59).heap.size (W59) (W59) := Below.refl _ _
                refine h_pv [18, 19, 20] 18 rfl #[true, true, true, true, true, true, true, true, true, true, true, true, true, true, true, true, true, true, true, true, true, false, false, false, false, false, false, false, false, false, false, false, false, false, false, false, false, false, false] [(145, .bool ((↑(((l.length / 256) - f.toNat) - (nxK k ((l.length / 256) - f.toNat))) : Int) != (↑m2 : Int))), (146, .bool ((↑(((l.length / 256) - f.toNat) - (nxK k ((l.length / 256) - f.toNat))) : Int) != (↑m2 : Int))), (147, .bool ((↑(((l.length / 256) - f.toNat) - (nxK k ((l.length / 256) - f.toNat))) : Int) != (↑m2 : Int)))] (by kernel_rfl) (fun _ _ _ _ _ h => h) (by kernel_rfl) hS61 ?_
                have hc62 : (((↑(((l.length / 256) - f.toNat) - (nxK k ((l.length / 256) - f.toNat))) : Int) != (↑m2 : Int)) : Bool) = false := by rw [bne_eq_false_iff_eq]; omega
                refine h_b [145, 146, 147] _ _ hc62 (by kernel_rfl) ?_
                refine h_pv [21, 23, 24, 25] 14 rfl #[true, true, true, true, true, true, true, true, true, true, true, true, true, true, true, true, true, true, true, true, true, true, false, true, true, true, false, false, false, false, false, false, false, false, false, false, false, false, false] [(148, .pointer (some ⟨ba, 0, none⟩)), (150, .pointer (some ⟨bc, 0, none⟩)), (151, .pointer (some ⟨bc, 0, none⟩)), (152, .pointer (some ⟨bc, 2, none⟩))] (by kernel_rfl) (fun _ _ _ _ _ h => h) (by kernel_rfl) hS61 ?_
                refine h_load 26 13 rfl ⟨bc, 2, none⟩ (.int .i64 (↑(nxK k ((l.length / 256) - f.toNat)) : Int)) rfl (by kernel_rfl) (by kernel_rfl) (by kernel_rfl) (fun _ _ _ _ _ h => h) (by kernel_rfl) rfl (by kernel_rfl) (by kernel_rfl) (fun V hV => ((hR.below hV).blk.cell (i := 2) rfl)) hS61 ?_
                refine h_one 22 12 rfl (by kernel_rfl) rfl (by kernel_rfl) (op_call (lb := #[]) 16 #[.pointer (some ⟨ba, 0, none⟩)] rfl (by kernel_rfl) (fun _ _ => by kernel_rfl) (by kernel_rfl) ((alloc_Used ba bi _ (nxK k ((l.length / 256) - f.toNat)) _ hA.blk).mono ?_))
                rintro e W63 ⟨rfl, hb63⟩
                refine ⟨_, rfl, ?_⟩
                replace hB := Bl.next hB hb63
                replace k37_b25 := k37_b25.below hb63
                replace k40 := k40.below hb63
                replace k48 := k48.below hb63
                replace hI := hI.below hb63
                replace hJ := hJ.below hb63
                replace hA := hA.below hb63
                replace hR := hR.below hb63
                replace hv := hv.below hb63
                have hS64 : Below (W59).heap.size (W59) (W63) := Bl.next hS61 hb63
                refine ⟨hS64, ?_⟩
                refine h_str (Below (W63).heap.size (W63)) (fun V hV => Bl.next hS64 hV) ?_
                have hS65 : Below (W63).heap.size (W63) (W63) := Below.refl _ _
                refine h_pv [27, 28, 29] 9 rfl #[true, true, true, true, true, true, true, true, true, true, true, true, true, true, true, true, true, true, true, true, true, true, true, true, true, true, true, true, true, true, false, false, false, false, false, false, false, false, false] [(154, .bool ((↑(nxK k ((l.length / 256) - f.toNat)) : Int) != (↑(nxK k ((l.length / 256) - f.toNat)) : Int))), (155, .bool ((↑(nxK k ((l.length / 256) - f.toNat)) : Int) != (↑(nxK k ((l.length / 256) - f.toNat)) : Int))), (156, .bool ((↑(nxK k ((l.length / 256) - f.toNat)) : Int) != (↑(nxK k ((l.length / 256) - f.toNat)) : Int)))] (by kernel_rfl) (fun _ _ _ _ _ h => h) (by kernel_rfl) hS65 ?_
                have hc66 : (((↑(nxK k ((l.length / 256) - f.toNat)) : Int) != (↑(nxK k ((l.length / 256) - f.toNat)) : Int)) : Bool) = false := by simp
                refine h_b [154, 155, 156] _ _ hc66 (by kernel_rfl) ?_
                refine h_pv [30, 31, 33, 34] 5 rfl #[true, true, true, true, true, true, true, true, true, true, true, true, true, true, true, true, true, true, true, true, true, true, true, true, true, true, true, true, true, true, true, true, false, true, true, false, false, false, false] [(157, .pointer (some ⟨ba, 0, none⟩)), (158, .int .i64 (↑i : Int)), (160, .pointer (some ⟨bc, 0, none⟩)), (161, .int .i64 (↑i : Int))] (by kernel_rfl) (fun _ _ _ _ _ h => h) (by kernel_rfl) hS65 ?_
                have hs67 : w.heap.size ≤ (W63).heap.size := hB.size
                refine h_one 32 4 rfl (by kernel_rfl) rfl (by kernel_rfl) (op_call (lb := #[]) 31 #[.pointer (some ⟨ba, 0, none⟩), .int .i64 (↑i : Int)] rfl (by kernel_rfl) (fun _ _ => by kernel_rfl) (by kernel_rfl) ((alloc_Ahead w.heap.size ba bi pa ((l.length / 256) - f.toNat) ca (nxK k ((l.length / 256) - f.toNat)) i (rngJ f.toNat ((l.length / 256) - f.toNat)) _ hA (by omega)).mono ?_))
                rintro e W67 ⟨_, rfl, hb67, q6, c6, rfl, h6⟩
                refine ⟨_, rfl, ?_⟩
                replace hB := Bl.next hB hb67
                replace k37_b25 := k37_b25.below hb67
                replace k40 := k40.below hb67
                replace k48 := k48.below hb67
                replace hI := hI.below hb67
                replace hJ := hJ.below hb67
                replace hA := hA.below hb67
                replace hR := hR.below hb67
                replace hv := hv.below hb67
                replace h6 := own_mono h6 hs67
                have hS68 : Below (W63).heap.size (W63) (W67) := Bl.next hS65 hb67
                refine ⟨hS68, ?_⟩
                refine h_str (Below (W67).heap.size (W67)) (fun V hV => Bl.next hS68 hV) ?_
                have hS69 : Below (W67).heap.size (W67) (W67) := Below.refl _ _
                have hs70 : w.heap.size ≤ (W67).heap.size := hB.size
                refine h_one 35 3 rfl (by kernel_rfl) rfl (by kernel_rfl) (op_call (lb := #[]) 32 #[.pointer (some ⟨bc, 0, none⟩), .int .i64 (↑i : Int)] rfl (by kernel_rfl) (fun _ _ => by kernel_rfl) (by kernel_rfl) ((ref_Ahead w.heap.size bc bj pg ((l.length / 256) - f.toNat) cg fa2 m2 fc2 (nxK k ((l.length / 256) - f.toNat)) i (rngJ f.toNat ((l.length / 256) - f.toNat)) _ hR (by omega)).mono ?_))
                rintro e W70 ⟨_, rfl, hb70, q7, c7, rfl, h7⟩
                refine ⟨_, rfl, ?_⟩
                replace hB := Bl.next hB hb70
                replace k37_b25 := k37_b25.below hb70
                replace k40 := k40.below hb70
                replace k48 := k48.below hb70
                replace hI := hI.below hb70
                replace hJ := hJ.below hb70
                replace hA := hA.below hb70
                replace hR := hR.below hb70
                replace hv := hv.below hb70
                replace h6 := own_below h6 hb70
                replace h7 := own_mono h7 hs70
                have hS71 : Below (W67).heap.size (W67) (W70) := Bl.next hS69 hb70
                refine ⟨hS71, ?_⟩
                refine h_str (Below (W70).heap.size (W70)) (fun V hV => Bl.next hS71 hV) ?_
                have hS72 : Below (W70).heap.size (W70) (W70) := Below.refl _ _
                refine h_one 36 2 rfl (by kernel_rfl) rfl (by kernel_rfl) (op_call (lb := #[]) 30 #[.slice q6 (min i (((l.length / 256) - f.toNat) - (nxK k ((l.length / 256) - f.toNat)))) c6, .slice q7 (min i (((l.length / 256) - f.toNat) - (nxK k ((l.length / 256) - f.toNat)))) c7] rfl (by kernel_rfl) (fun _ _ => by kernel_rfl) (by kernel_rfl) ((ref01_SameN q6 q7 (min i (((l.length / 256) - f.toNat) - (nxK k ((l.length / 256) - f.toNat)))) c6 c7 (((rngJ f.toNat ((l.length / 256) - f.toNat)).drop (nxK k ((l.length / 256) - f.toNat))).take i) _ (by rw [List.length_take, List.length_drop, hLN]) (own_sl h6) (own_sl h7) (by omega)).mono ?_))
                rintro e W73 ⟨rfl, hb73⟩
                refine ⟨_, rfl, ?_⟩
                replace hB := Bl.next hB hb73
                replace k37_b25 := k37_b25.below hb73
                replace k40 := k40.below hb73
                replace k48 := k48.below hb73
                replace hI := hI.below hb73
                replace hJ := hJ.below hb73
                replace hA := hA.below hb73
                replace hR := hR.below hb73
                replace hv := hv.below hb73
                replace h6 := own_below h6 hb73
                replace h7 := own_below h7 hb73
                have hS74 : Below (W70).heap.size (W70) (W73) := Bl.next hS72 hb73
                refine ⟨hS74, ?_⟩
                refine h_str (Below (W73).heap.size (W73)) (fun V hV => Bl.next hS74 hV) ?_
                have hS75 : Below (W73).heap.size (W73) (W73) := Below.refl _ _
                refine h_pv [37, 38] 0 rfl #[true, true, true, true, true, true, true, true, true, true, true, true, true, true, true, true, true, true, true, true, true, true, true, true, true, true, true, true, true, true, true, true, true, true, true, true, true, true, true] [(164, .bool false), (165, .bool false)] (by kernel_rfl) (fun _ _ _ _ _ h => h) (by kernel_rfl) hS75 ?_
                refine h_done _ (by kernel_rfl) ?_
                refine wp_cond_false (by kernel_rfl) ?_
                refine wp_skip ?_
                refine wp_region_lit ?_
                refine g_pv 1 [(85, .int .i64 (↑i : Int))] (by kernel_rfl) ?_
                refine g_op (by kernel_rfl) (op_val (run_wrap .i64 ((↑i : Int) + 1) (↑(i + 1) : Int) (by kernel_rfl) ((show IntKind.i64.wrap ((↑i : Int) + 1) = ((↑i : Int) + 1) from by first | exact IntWalk.i64_in _ (by omega) | (simp only [IntKind.wrap]; omega)).trans (by omega)) _) ?_)
                refine g_pv 1 [(15, .int .i64 (↑(i + 1) : Int))] (by kernel_rfl) ?_
                refine wpList_nil ?_
                refine g_nfr ⟨#[.slice a l.length c, .int .i64 f, .slice aZ Z.length cZ, .slice aT T.length cT, undef, undef, undef, undef, (x37 0), .pointer (some ⟨bi, 0, none⟩), .pointer (some ⟨bj, 0, none⟩), .pointer (some ⟨ba, 0, none⟩), .nilIface, .pointer (some ⟨bc, 0, none⟩), .pointer (some ⟨b25, 0, none⟩), .int .i64 (↑(i + 1) : Int), .pointer (some ⟨b39, 0, none⟩), .int .i64 (nxV k ((l.length / 256) - f.toNat) (rngJ f.toNat ((l.length / 256) - f.toNat))), ve, .int .i64 (nxV k ((l.length / 256) - f.toNat) (rngJ f.toNat ((l.length / 256) - f.toNat))), .pointer (some ⟨b43, 0, none⟩), .slice a l.length c, .int .i64 (↑l.length : Int), .bool false, .bool false, .slice aT T.length cT, .int .i64 (↑T.length : Int), .bool false, .bool false, .bool false, .slice aZ Z.length cZ, .int .i64 (↑Z.length : Int), .bool (decide ((↑Z.length : Int) > (100 : Int))), .bool (decide ((↑Z.length : Int) > (100 : Int))), undef, .slice a l.length c, .pointer (some ⟨bi, 0, none⟩), .slice a l.length c, .pointer (some ⟨bj, 0, none⟩), .tuple #[.pointer (some ⟨ba, 0, none⟩), .nilIface], .pointer (some ⟨bi, 0, none⟩), .int .i64 f, .tuple #[.pointer (some ⟨ba, 0, none⟩), .nilIface], .pointer (some ⟨ba, 0, none⟩), .nilIface, .tuple #[.pointer (some ⟨bc, 0, none⟩), .agg #[.slice none 0 0, .int .i64 0]], .pointer (some ⟨bj, 0, none⟩), .int .i64 f, .tuple #[.pointer (some ⟨bc, 0, none⟩), .agg #[.slice none 0 0, .int .i64 0]], .pointer (some ⟨bc, 0, none⟩), .agg #[.slice none 0 0, .int .i64 0], .slice aZ Z.length cZ, .int .i64 (↑Z.length : Int), .bool (decide ((↑Z.length : Int) > (0 : Int))), undef, undef, undef, undef, undef, undef, undef, undef, undef, undef, undef, undef, .nilIface, vt31, .agg #[.slice none 0 0, .int .i64 0], .bool true, .bool false, .bool false, .pointer (some ⟨ba, 0, none⟩), .bool false, .pointer (some ⟨bc, 0, none⟩), .bool false, .bool false, .bool false, .pointer (some ⟨ba, 0, none⟩), .bool false, undef, .int .i64 (↑i : Int), .slice aT T.length cT, .int .i64 (↑T.length : Int), .bool (decide ((↑i : Int) < (↑T.length : Int))), .int .i64 (↑i : Int), .int .i64 (↑(i + 1) : Int), .slice aT T.length cT, .int .i64 (↑i : Int), .pointer (some (elemAddr aT (i * 3))), .agg #[.bool ((T.getD i stD).1), .int .i64 ((T.getD i stD).2.1), .slice ((T.getD i stD).2.2.1) ((T.getD i stD).2.2.2.2.length) ((T.getD i stD).2.2.2.1)], .pointer (some ⟨b39, 2, none⟩), .slice ((T.getD i stD).2.2.1) ((T.getD i stD).2.2.2.2.length) ((T.getD i stD).2.2.2.1), .int .i64 (↑((T.getD i stD).2.2.2.2.length) : Int), .bool (decide ((↑((T.getD i stD).2.2.2.2.length) : Int) > (600 : Int))), (x37 20), .agg #[.slice none 0 0, .int .i64 0], .pointer (some ⟨b39, 0, none⟩), .bool ((T.getD i stD).1), .tuple #[.int .i64 (nxV k ((l.length / 256) - f.toNat) (rngJ f.toNat ((l.length / 256) - f.toNat))), ve], .pointer (some ⟨ba, 0, none⟩), .tuple #[.int .i64 (nxV k ((l.length / 256) - f.toNat) (rngJ f.toNat ((l.length / 256) - f.toNat))), ve], .int .i64 (nxV k ((l.length / 256) - f.toNat) (rngJ f.toNat ((l.length / 256) - f.toNat))), ve, .tuple #[.int .i64 (nxV k ((l.length / 256) - f.toNat) (rngJ f.toNat ((l.length / 256) - f.toNat))), .agg #[.slice none 0 0, .int .i64 (nxE k ((l.length / 256) - f.toNat))]], .pointer (some ⟨bc, 0, none⟩), .tuple #[.int .i64 (nxV k ((l.length / 256) - f.toNat) (rngJ f.toNat ((l.length / 256) - f.toNat))), .agg #[.slice none 0 0, .int .i64 (nxE k ((l.length / 256) - f.toNat))]], .int .i64 (nxV k ((l.length / 256) - f.toNat) (rngJ f.toNat ((l.length / 256) - f.toNat))), .agg #[.slice none 0 0, .int .i64 (nxE k ((l.length / 256) - f.toNat))], (x37 34), (x37 35), (x37 36), (x37 37), (x37 38), (x37 39), (x37 40), (x37 41), (x37 42), (x37 43), (x37 44), (x37 45), (x37 46), (x37 47), (x37 48), (x37 49), (x37 50), (x37 51), .int .i64 (nxV k ((l.length / 256) - f.toNat) (rngJ f.toNat ((l.length / 256) - f.toNat))), .int .i64 (nxV k ((l.length / 256) - f.toNat) (rngJ f.toNat ((l.length / 256) - f.toNat))), .bool false, .bool false, ve, vt53, .agg #[.slice none 0 0, .int .i64 (nxE k ((l.length / 256) - f.toNat))], .bool true, .bool false, .bool false, .bool false, .pointer (some ⟨ba, 0, none⟩), .int .i64 (↑(((l.length / 256) - f.toNat) - (nxK k ((l.length / 256) - f.toNat))) : Int), .pointer (some ⟨bc, 0, none⟩), .pointer (some ⟨bc, 0, none⟩), .pointer (some ⟨bc, 1, none⟩), .slice fa2 m2 fc2, .int .i64 (↑m2 : Int), .bool false, .bool false, .bool false, .pointer (some ⟨ba, 0, none⟩), .int .i64 (↑(nxK k ((l.length / 256) - f.toNat)) : Int), .pointer (some ⟨bc, 0, none⟩), .pointer (some ⟨bc, 0, none⟩), .pointer (some ⟨bc, 2, none⟩), .int .i64 (↑(nxK k ((l.length / 256) - f.toNat)) : Int), .bool false, .bool false, .bool false, .pointer (some ⟨ba, 0, none⟩), .int .i64 (↑i : Int), .slice q6 (min i (((l.length / 256) - f.toNat) - (nxK k ((l.length / 256) - f.toNat)))) c6, .pointer (some ⟨bc, 0, none⟩), .int .i64 (↑i : Int), .slice q7 (min i (((l.length / 256) - f.toNat) - (nxK k ((l.length / 256) - f.toNat)))) c7, .bool true, .bool false, .bool false, undef, undef, undef, undef, undef, undef, undef, undef, undef, undef, undef, undef, undef, undef, undef, undef, undef, undef, undef, undef], []⟩ (by kernel_rfl) ?_
                refine ⟨⟨i + 1, (nxK k ((l.length / 256) - f.toNat)), lc, fa2, m2, fc2, (pk [(x37 0), .pointer (some ⟨b39, 0, none⟩), .int .i64 (nxV k ((l.length / 256) - f.toNat) (rngJ f.toNat ((l.length / 256) - f.toNat))), ve, .int .i64 (nxV k ((l.length / 256) - f.toNat) (rngJ f.toNat ((l.length / 256) - f.toNat))), .pointer (some ⟨b43, 0, none⟩), .int .i64 (↑i : Int), .slice aT T.length cT, .int .i64 (↑T.length : Int), .bool (decide ((↑i : Int) < (↑T.length : Int))), .int .i64 (↑i : Int), .int .i64 (↑(i + 1) : Int), .slice aT T.length cT, .int .i64 (↑i : Int), .pointer (some (elemAddr aT (i * 3))), .agg #[.bool ((T.getD i stD).1), .int .i64 ((T.getD i stD).2.1), .slice ((T.getD i stD).2.2.1) ((T.getD i stD).2.2.2.2.length) ((T.getD i stD).2.2.2.1)], .pointer (some ⟨b39, 2, none⟩), .slice ((T.getD i stD).2.2.1) ((T.getD i stD).2.2.2.2.length) ((T.getD i stD).2.2.2.1), .int .i64 (↑((T.getD i stD).2.2.2.2.length) : Int), .bool (decide ((↑((T.getD i stD).2.2.2.2.length) : Int) > (600 : Int))), (x37 20), .agg #[.slice none 0 0, .int .i64 0], .pointer (some ⟨b39, 0, none⟩), .bool ((T.getD i stD).1), .tuple #[.int .i64 (nxV k ((l.length / 256) - f.toNat) (rngJ f.toNat ((l.length / 256) - f.toNat))), ve], .pointer (some ⟨ba, 0, none⟩), .tuple #[.int .i64 (nxV k ((l.length / 256) - f.toNat) (rngJ f.toNat ((l.length / 256) - f.toNat))), ve], .int .i64 (nxV k ((l.length / 256) - f.toNat) (rngJ f.toNat ((l.length / 256) - f.toNat))), ve, .tuple #[.int .i64 (nxV k ((l.length / 256) - f.toNat) (rngJ f.toNat ((l.length / 256) - f.toNat))), .agg #[.slice none 0 0, .int .i64 (nxE k ((l.length / 256) - f.toNat))]], .pointer (some ⟨bc, 0, none⟩), .tuple #[.int .i64 (nxV k ((l.length / 256) - f.toNat) (rngJ f.toNat ((l.length / 256) - f.toNat))), .agg #[.slice none 0 0, .int .i64 (nxE k ((l.length / 256) - f.toNat))]], .int .i64 (nxV k ((l.length / 256) - f.toNat) (rngJ f.toNat ((l.length / 256) - f.toNat))), .agg #[.slice none 0 0, .int .i64 (nxE k ((l.length / 256) - f.toNat))], (x37 34), (x37 35), (x37 36), (x37 37), (x37 38), (x37 39), (x37 40), (x37 41), (x37 42), (x37 43), (x37 44), (x37 45), (x37 46), (x37 47), (x37 48), (x37 49), (x37 50), (x37 51), .int .i64 (nxV k ((l.length / 256) - f.toNat) (rngJ f.toNat ((l.length / 256) - f.toNat))), .int .i64 (nxV k ((l.length / 256) - f.toNat) (rngJ f.toNat ((l.length / 256) - f.toNat))), .bool false, .bool false, ve, vt53, .agg #[.slice none 0 0, .int .i64 (nxE k ((l.length / 256) - f.toNat))], .bool true, .bool false, .bool false, .bool false, .pointer (some ⟨ba, 0, none⟩), .int .i64 (↑(((l.length / 256) - f.toNat) - (nxK k ((l.length / 256) - f.toNat))) : Int), .pointer (some ⟨bc, 0, none⟩), .pointer (some ⟨bc, 0, none⟩), .pointer (some ⟨bc, 1, none⟩), .slice fa2 m2 fc2, .int .i64 (↑m2 : Int), .bool false, .bool false, .bool false, .pointer (some ⟨ba, 0, none⟩), .int .i64 (↑(nxK k ((l.length / 256) - f.toNat)) : Int), .pointer (some ⟨bc, 0, none⟩), .pointer (some ⟨bc, 0, none⟩), .pointer (some ⟨bc, 2, none⟩), .int .i64 (↑(nxK k ((l.length / 256) - f.toNat)) : Int), .bool false, .bool false, .bool false, .pointer (some ⟨ba, 0, none⟩), .int .i64 (↑i : Int), .slice q6 (min i (((l.length / 256) - f.toNat) - (nxK k ((l.length / 256) - f.toNat)))) c6, .pointer (some ⟨bc, 0, none⟩), .int .i64 (↑i : Int), .slice q7 (min i (((l.length / 256) - f.toNat) - (nxK k ((l.length / 256) - f.toNat)))) c7, .bool true, .bool false, .bool false]), (by kernel_rfl), hB, k37_b25, hA, hR, hI, hJ, by omega⟩, ?_⟩
                show T.length - ((↑(i + 1) : Int)).toNat < T.length - ((↑i : Int)).toNat
                omega
              · refine wp_seq ?_
                refine wp_region_lit ?_
                refine g_pv 2 [(110, .pointer (some ⟨ba, 0, none⟩)), (111, .pointer (some ⟨b39, 1, none⟩))] (by kernel_rfl) ?_
                refine g_op (by kernel_rfl) (op_load ⟨b39, 1, none⟩ (.int .i64 ((T.getD i stD).2.1)) rfl (by kernel_rfl) (by kernel_rfl) (k40.cell (i := 1) rfl) ?_)
                refine g_pv 1 [(113, .pointer (some ⟨b39, 2, none⟩))] (by kernel_rfl) ?_
                refine g_op (by kernel_rfl) (op_load ⟨b39, 2, none⟩ (.slice ((T.getD i stD).2.2.1) ((T.getD i stD).2.2.2.2.length) ((T.getD i stD).2.2.2.1)) rfl (by kernel_rfl) (by kernel_rfl) (k40.cell (i := 2) rfl) ?_)
                refine g_op (by kernel_rfl) (op_call (lb := #[]) 27 #[.pointer (some ⟨ba, 0, none⟩), .int .i64 ((T.getD i stD).2.1), .slice ((T.getD i stD).2.2.1) ((T.getD i stD).2.2.2.2.length) ((T.getD i stD).2.2.2.1)] rfl (by kernel_rfl) (fun _ _ => by kernel_rfl) (by kernel_rfl) ((alloc_LayG w.heap.size ba bi pa ((l.length / 256) - f.toNat) ca k (rngJ f.toNat ((l.length / 256) - f.toNat)) pi (l.length / 256) ((l.length / 256) * 256) ci lc (T.getD i stD).2.1 (T.getD i stD).2.2.1 (T.getD i stD).2.2.2.1 (T.getD i stD).2.2.2.2 _ hA (fun hk => good_nn hgood hLN hk) rfl hI (fun W hb => (hTb i (by omega)).below (hB.trans hb)) hB.size).mono ?_))
                rintro e W76 ⟨ve, rfl, hb76, hO76, hA, hI, hv⟩
                refine ⟨_, rfl, ?_⟩
                replace hB := hB.trans hb76
                replace k37_b25 := k37_b25.only hO76 (by decide)
                replace k40 := k40.only hO76 (by decide)
                replace k44 := k44.only hO76 (by decide)
                replace hJ := hJ.only hO76 (by decide)
                replace hR := hR.only hO76 (by decide)
                refine g_pv 5 [(109, .tuple #[.int .i64 (lyV k ((l.length / 256) - f.toNat) (l.length / 256) (rngJ f.toNat ((l.length / 256) - f.toNat)) (T.getD i stD).2.1 (T.getD i stD).2.2.2.2), ve]), (116, .int .i64 (lyV k ((l.length / 256) - f.toNat) (l.length / 256) (rngJ f.toNat ((l.length / 256) - f.toNat)) (T.getD i stD).2.1 (T.getD i stD).2.2.2.2)), (117, ve), (17, .int .i64 (lyV k ((l.length / 256) - f.toNat) (l.length / 256) (rngJ f.toNat ((l.length / 256) - f.toNat)) (T.getD i stD).2.1 (T.getD i stD).2.2.2.2)), (18, ve)] (by kernel_rfl) ?_
                refine wpList_nil ?_
                refine wp_region_lit ?_
                refine g_pv 2 [(119, .pointer (some ⟨bc, 0, none⟩)), (120, .pointer (some ⟨b39, 1, none⟩))] (by kernel_rfl) ?_
                refine g_op (by kernel_rfl) (op_load ⟨b39, 1, none⟩ (.int .i64 ((T.getD i stD).2.1)) rfl (by kernel_rfl) (by kernel_rfl) (k40.cell (i := 1) rfl) ?_)
                refine g_pv 1 [(122, .pointer (some ⟨b39, 2, none⟩))] (by kernel_rfl) ?_
                refine g_op (by kernel_rfl) (op_load ⟨b39, 2, none⟩ (.slice ((T.getD i stD).2.2.1) ((T.getD i stD).2.2.2.2.length) ((T.getD i stD).2.2.2.1)) rfl (by kernel_rfl) (by kernel_rfl) (k40.cell (i := 2) rfl) ?_)
                refine g_op (by kernel_rfl) (op_call (lb := #[]) 28 #[.pointer (some ⟨bc, 0, none⟩), .int .i64 ((T.getD i stD).2.1), .slice ((T.getD i stD).2.2.1) ((T.getD i stD).2.2.2.2.length) ((T.getD i stD).2.2.2.1)] rfl (by kernel_rfl) (fun _ _ => by kernel_rfl) (by kernel_rfl) ((ref_Lay w.heap.size bc bj pg ((l.length / 256) - f.toNat) cg fa m fc k (rngJ f.toNat ((l.length / 256) - f.toNat)) pj (l.length / 256) cj lc (T.getD i stD).2.1 (T.getD i stD).2.2.1 (T.getD i stD).2.2.2.1 (T.getD i stD).2.2.2.2 _ hR hJ (fun W hb => (hTb i (by omega)).below (hB.trans hb)) hB.size).mono ?_))
                rintro e W77 ⟨a5, c5, fa2, m2, fc2, rfl, hb77, hO77, hR, hJ, h5⟩
                refine ⟨_, rfl, ?_⟩
                replace hB := hB.trans hb77
                replace k37_b25 := k37_b25.only hO77 (by decide)
                replace k40 := k40.only hO77 (by decide)
                replace k44 := k44.only hO77 (by decide)
                replace hI := hI.only hO77 (by decide)
                replace hA := hA.only hO77 (by decide)
                replace hv := hv.only hO77 (by decide)
                have hRm := hR.hm
                refine g_pv 4 [(118, .tuple #[.int .i64 (lyV k ((l.length / 256) - f.toNat) (l.length / 256) (rngJ f.toNat ((l.length / 256) - f.toNat)) (T.getD i stD).2.1 (T.getD i stD).2.2.2.2), .agg #[.slice a5 ((lyB k ((l.length / 256) - f.toNat) (l.length / 256) (rngJ f.toNat ((l.length / 256) - f.toNat)) (T.getD i stD).2.1 (T.getD i stD).2.2.2.2).length) c5, .int .i64 (lyE k ((l.length / 256) - f.toNat) (l.length / 256) (rngJ f.toNat ((l.length / 256) - f.toNat)) (T.getD i stD).2.1 (T.getD i stD).2.2.2.2)]]), (125, .int .i64 (lyV k ((l.length / 256) - f.toNat) (l.length / 256) (rngJ f.toNat ((l.length / 256) - f.toNat)) (T.getD i stD).2.1 (T.getD i stD).2.2.2.2)), (126, .agg #[.slice a5 ((lyB k ((l.length / 256) - f.toNat) (l.length / 256) (rngJ f.toNat ((l.length / 256) - f.toNat)) (T.getD i stD).2.1 (T.getD i stD).2.2.2.2).length) c5, .int .i64 (lyE k ((l.length / 256) - f.toNat) (l.length / 256) (rngJ f.toNat ((l.length / 256) - f.toNat)) (T.getD i stD).2.1 (T.getD i stD).2.2.2.2)]), (19, .int .i64 (lyV k ((l.length / 256) - f.toNat) (l.length / 256) (rngJ f.toNat ((l.length / 256) - f.toNat)) (T.getD i stD).2.1 (T.getD i stD).2.2.2.2))] (by kernel_rfl) ?_
                refine g_op (by kernel_rfl) (op_storev (b := b43) (off := 0) [.slice a5 ((lyB k ((l.length / 256) - f.toNat) (l.length / 256) (rngJ f.toNat ((l.length / 256) - f.toNat)) (T.getD i stD).2.1 (T.getD i stD).2.2.2.2).length) c5, .int .i64 (lyE k ((l.length / 256) - f.toNat) (l.length / 256) (rngJ f.toNat ((l.length / 256) - f.toNat)) (T.getD i stD).2.1 (T.getD i stD).2.2.2.2)] rfl (by kernel_rfl) (by kernel_rfl) (by kernel_rfl) (by first | decide | simp [Value.oneCell']) k44 (by first | decide | simp) ?_)
                intro W78 u78 k78
                change Blk _ _ [.slice a5 ((lyB k ((l.length / 256) - f.toNat) (l.length / 256) (rngJ f.toNat ((l.length / 256) - f.toNat)) (T.getD i stD).2.1 (T.getD i stD).2.2.2.2).length) c5, .int .i64 (lyE k ((l.length / 256) - f.toNat) (l.length / 256) (rngJ f.toNat ((l.length / 256) - f.toNat)) (T.getD i stD).2.1 (T.getD i stD).2.2.2.2)] _ at k78
                replace hB := u78.below hB g43
                replace k37_b25 := u78.blk k37_b25 (Ne.symm (Ne.symm d43_b25))
                replace k40 := u78.blk k40 (Ne.symm (Ne.symm d43_b39))
                replace hI := hI.only (Only.of_upd (T := [33]) u78 k44 (by decide)) (by decide)
                replace hJ := hJ.only (Only.of_upd (T := [33]) u78 k44 (by decide)) (by decide)
                replace hA := hA.only (Only.of_upd (T := [33]) u78 k44 (by decide)) (by decide)
                replace hR := hR.only (Only.of_upd (T := [33]) u78 k44 (by decide)) (by decide)
                replace hv := hv.only (Only.of_upd (T := [33]) u78 k44 (by decide)) (by decide)
                replace h5 := u78.own2 h5 k44 (by decide)
                refine wpList_nil ?_
                refine wp_seq ?_
                replace hB := Bl.next hB (below_drew W78)
                replace k37_b25 := k37_b25.below (below_drew W78)
                replace k40 := k40.below (below_drew W78)
                replace k78 := k78.below (below_drew W78)
                replace hI := hI.below (below_drew W78)
                replace hJ := hJ.below (below_drew W78)
                replace hA := hA.below (below_drew W78)
                replace hR := hR.below (below_drew W78)
                replace hv := hv.below (below_drew W78)
                replace h5 := own_below h5 (below_drew W78)
                refine h_reg (Below (W78.drew).heap.size (W78.drew)) 39 rfl #[false, false, false, false, false, false, false, false, false, false, false, false, false, false, false, false, false, false, false, false, false, false, false, false, false, false, false, false, false, false, false, false, false, false, false, false, false, false, false] rfl (by kernel_rfl) (Below.refl _ _) ?_
                intro hS79
                have hBd81 := hB
                have kd81_b25 := k37_b25
                have kd81_b39 := k40
                have kd81_b43 := k78
                refine h_pv [0, 1, 2, 3] 35 rfl #[true, true, true, true, false, false, false, false, false, false, false, false, false, false, false, false, false, false, false, false, false, false, false, false, false, false, false, false, false, false, false, false, false, false, false, false, false, false, false] [(127, .int .i64 (lyV k ((l.length / 256) - f.toNat) (l.length / 256) (rngJ f.toNat ((l.length / 256) - f.toNat)) (T.getD i stD).2.1 (T.getD i stD).2.2.2.2)), (128, .int .i64 (lyV k ((l.length / 256) - f.toNat) (l.length / 256) (rngJ f.toNat ((l.length / 256) - f.toNat)) (T.getD i stD).2.1 (T.getD i stD).2.2.2.2)), (129, .bool ((lyV k ((l.length / 256) - f.toNat) (l.length / 256) (rngJ f.toNat ((l.length / 256) - f.toNat)) (T.getD i stD).2.1 (T.getD i stD).2.2.2.2) != (lyV k ((l.length / 256) - f.toNat) (l.length / 256) (rngJ f.toNat ((l.length / 256) - f.toNat)) (T.getD i stD).2.1 (T.getD i stD).2.2.2.2))), (130, .bool ((lyV k ((l.length / 256) - f.toNat) (l.length / 256) (rngJ f.toNat ((l.length / 256) - f.toNat)) (T.getD i stD).2.1 (T.getD i stD).2.2.2.2) != (lyV k ((l.length / 256) - f.toNat) (l.length / 256) (rngJ f.toNat ((l.length / 256) - f.toNat)) (T.getD i stD).2.1 (T.getD i stD).2.2.2.2)))] (by kernel_rfl) (fun _ _ _ _ _ h => h) (by kernel_rfl) hS79 ?_
                have hc82 : (((lyV k ((l.length / 256) - f.toNat) (l.length / 256) (rngJ f.toNat ((l.length / 256) - f.toNat)) (T.getD i stD).2.1 (T.getD i stD).2.2.2.2) != (lyV k ((l.length / 256) - f.toNat) (l.length / 256) (rngJ f.toNat ((l.length / 256) - f.toNat)) (T.getD i stD).2.1 (T.getD i stD).2.2.2.2)) : Bool) = false := by simp
                refine h_b [129, 130] _ _ hc82 (by kernel_rfl) ?_
                refine h_pv [4] 34 rfl #[true, true, true, true, true, false, false, false, false, false, false, false, false, false, false, false, false, false, false, false, false, false, false, false, false, false, false, false, false, false, false, false, false, false, false, false, false, false, false] [(131, ve)] (by kernel_rfl) (fun _ _ _ _ _ h => h) (by kernel_rfl) hS79 ?_
                refine h_loadv (b := b43) (off := 0) 6 33 rfl [.slice a5 ((lyB k ((l.length / 256) - f.toNat) (l.length / 256) (rngJ f.toNat ((l.length / 256) - f.toNat)) (T.getD i stD).2.1 (T.getD i stD).2.2.2.2).length) c5, .int .i64 (lyE k ((l.length / 256) - f.toNat) (l.length / 256) (rngJ f.toNat ((l.length / 256) - f.toNat)) (T.getD i stD).2.1 (T.getD i stD).2.2.2.2)] _ rfl (by kernel_rfl) (by kernel_rfl) (by kernel_rfl) (fun _ _ _ _ _ h => h) (by kernel_rfl) rfl (by kernel_rfl) Tryz.underlying33 rfl (by kernel_rfl) (fun V hV => (k78.below hV).whole) hS79 ?_
                refine h_one 5 32 rfl (by kernel_rfl) rfl (by kernel_rfl) (op_call (lb := #[]) 15 #[ve] rfl (by kernel_rfl) (fun _ _ => by kernel_rfl) (by kernel_rfl) ((told_l k ((l.length / 256) - f.toNat) (l.length / 256) (rngJ f.toNat ((l.length / 256) - f.toNat)) (T.getD i stD).2.1 (T.getD i stD).2.2.2.2 _ _ (hg.below hB) hv).mono ?_))
                rintro e W83 ⟨vt83, rfl, hb83, hq⟩
                refine ⟨_, rfl, ?_⟩
                replace hB := Bl.next hB hb83
                replace k37_b25 := k37_b25.below hb83
                replace k40 := k40.below hb83
                replace k78 := k78.below hb83
                replace hI := hI.below hb83
                replace hJ := hJ.below hb83
                replace hA := hA.below hb83
                replace hR := hR.below hb83
                replace hv := hv.below hb83
                replace h5 := own_below h5 hb83
                have hS84 : Below (W78.drew).heap.size (W78.drew) (W83) := Bl.next hS79 hb83
                refine ⟨hS84, ?_⟩
                refine h_str (Below (W83).heap.size (W83)) (fun V hV => Bl.next hS84 hV) ?_
                have hS85 : Below (W83).heap.size (W83) (W83) := Below.refl _ _
                refine h_one 7 31 rfl (by kernel_rfl) rfl (by kernel_rfl) (op_call (lb := #[]) 14 #[vt83, .agg #[.slice a5 ((lyB k ((l.length / 256) - f.toNat) (l.length / 256) (rngJ f.toNat ((l.length / 256) - f.toNat)) (T.getD i stD).2.1 (T.getD i stD).2.2.2.2).length) c5, .int .i64 (lyE k ((l.length / 256) - f.toNat) (l.length / 256) (rngJ f.toNat ((l.length / 256) - f.toNat)) (T.getD i stD).2.1 (T.getD i stD).2.2.2.2)]] rfl (by kernel_rfl) (fun _ _ => by kernel_rfl) (by kernel_rfl) ((ref05_Same (lyB k ((l.length / 256) - f.toNat) (l.length / 256) (rngJ f.toNat ((l.length / 256) - f.toNat)) (T.getD i stD).2.1 (T.getD i stD).2.2.2.2) (lyE k ((l.length / 256) - f.toNat) (l.length / 256) (rngJ f.toNat ((l.length / 256) - f.toNat)) (T.getD i stD).2.1 (T.getD i stD).2.2.2.2) vt83 _ _ hq ⟨_, rfl, by have := own_sl h5; unfold Ints; exact this⟩).mono ?_))
                rintro e W86 ⟨rfl, hb86⟩
                refine ⟨_, rfl, ?_⟩
                replace hB := Bl.next hB hb86
                replace k37_b25 := k37_b25.below hb86
                replace k40 := k40.below hb86
                replace k78 := k78.below hb86
                replace hI := hI.below hb86
                replace hJ := hJ.below hb86
                replace hA := hA.below hb86
                replace hR := hR.below hb86
                replace hv := hv.below hb86
                replace h5 := own_below h5 hb86
                replace hq := hq.below hb86
                have hS87 : Below (W83).heap.size (W83) (W86) := Bl.next hS85 hb86
                refine ⟨hS87, ?_⟩
                refine h_str (Below (W86).heap.size (W86)) (fun V hV => Bl.next hS87 hV) ?_
                have hS88 : Below (W86).heap.size (W86) (W86) := Below.refl _ _
                refine h_pv [8, 9, 10, 11, 13, 14, 15] 24 rfl #[true, true, true, true, true, true, true, true, true, true, true, true, false, true, true, true, false, false, false, false, false, false, false, false, false, false, false, false, false, false, false, false, false, false, false, false, false, false, false] [(135, .bool false), (136, .bool false), (137, .bool false), (138, .pointer (some ⟨ba, 0, none⟩)), (140, .pointer (some ⟨bc, 0, none⟩)), (141, .pointer (some ⟨bc, 0, none⟩)), (142, .pointer (some ⟨bc, 1, none⟩))] (by kernel_rfl) (fun _ _ _ _ _ h => h) (by kernel_rfl) hS88 ?_
                refine h_load 16 23 rfl ⟨bc, 1, none⟩ (.slice fa2 m2 fc2) rfl (by kernel_rfl) (by kernel_rfl) (by kernel_rfl) (fun _ _ _ _ _ h => h) (by kernel_rfl) rfl (by kernel_rfl) (by kernel_rfl) (fun V hV => ((hR.below hV).blk.cell (i := 1) rfl)) hS88 ?_
                refine h_pv [17] 22 rfl #[true, true, true, true, true, true, true, true, true, true, true, true, false, true, true, true, true, true, false, false, false, false, false, false, false, false, false, false, false, false, false, false, false, false, false, false, false, false, false] [(144, .int .i64 (↑m2 : Int))] (by kernel_rfl) (fun _ _ _ _ _ h => h) (by kernel_rfl) hS88 ?_
                refine h_one 12 21 rfl (by kernel_rfl) rfl (by kernel_rfl) (op_call (lb := #[]) 29 #[.pointer (some ⟨ba, 0, none⟩)] rfl (by kernel_rfl) (fun _ _ => by kernel_rfl) (by kernel_rfl) ((alloc_Left ba bi pa ((l.length / 256) - f.toNat) ca (lyK k ((l.length / 256) - f.toNat) (l.length / 256) (rngJ f.toNat ((l.length / 256) - f.toNat)) (T.getD i stD).2.1 (T.getD i stD).2.2.2.2) _ hA.blk hA.hk).mono ?_))
                rintro e W89 ⟨rfl, hb89⟩
                refine ⟨_, rfl, ?_⟩
                replace hB := Bl.next hB hb89
                replace k37_b25 := k37_b25.below hb89
                replace k40 := k40.below hb89
                replace k78 := k78.below hb89
                replace hI := hI.below hb89
                replace hJ := hJ.below hb89
                replace hA := hA.below hb89
                replace hR := hR.below hb89
                replace hv := hv.below hb89
                replace h5 := own_below h5 hb89
                have hS90 : Below (W86).heap.size (W86) (W89) := Bl.next hS88 hb89
                refine ⟨hS90, ?_⟩
                refine h_str (Below (W89).heap.size (W89)) (fun V hV => Bl.next hS90 hV) ?_
                have hS91 : Below (W89).heap.size (W89) (W89) := Below.refl _ _
                refine h_pv [18, 19, 20] 18 rfl #[true, true, true, true, true, true, true, true, true, true, true, true, true, true, true, true, true, true, true, true, true, false, false, false, false, false, false, false, false, false, false, false, false, false, false, false, false, false, false] [(145, .bool ((↑(((l.length / 256) - f.toNat) - (lyK k ((l.length / 256) - f.toNat) (l.length / 256) (rngJ f.toNat ((l.length / 256) - f.toNat)) (T.getD i stD).2.1 (T.getD i stD).2.2.2.2)) : Int) != (↑m2 : Int))), (146, .bool ((↑(((l.length / 256) - f.toNat) - (lyK k ((l.length / 256) - f.toNat) (l.length / 256) (rngJ f.toNat ((l.length / 256) - f.toNat)) (T.getD i stD).2.1 (T.getD i stD).2.2.2.2)) : Int) != (↑m2 : Int))), (147, .bool ((↑(((l.length / 256) - f.toNat) - (lyK k ((l.length / 256) - f.toNat) (l.length / 256) (rngJ f.toNat ((l.length / 256) - f.toNat)) (T.getD i stD).2.1 (T.getD i stD).2.2.2.2)) : Int) != (↑m2 : Int)))] (by kernel_rfl) (fun _ _ _ _ _ h => h) (by kernel_rfl) hS91 ?_
                have hc92 : (((↑(((l.length / 256) - f.toNat) - (lyK k ((l.length / 256) - f.toNat) (l.length / 256) (rngJ f.toNat ((l.length / 256) - f.toNat)) (T.getD i stD).2.1 (T.getD i stD).2.2.2.2)) : Int) != (↑m2 : Int)) : Bool) = false := by rw [bne_eq_false_iff_eq]; omega
                refine h_b [145, 146, 147] _ _ hc92 (by kernel_rfl) ?_
                refine h_pv [21, 23, 24, 25] 14 rfl #[true, true, true, true, true, true, true, true, true, true, true, true, true, true, true, true, true, true, true, true, true, true, false, true, true, true, false, false, false, false, false, false, false, false, false, false, false, false, false] [(148, .pointer (some ⟨ba, 0, none⟩)), (150, .pointer (some ⟨bc, 0, none⟩)), (151, .pointer (some ⟨bc, 0, none⟩)), (152, .pointer (some ⟨bc, 2, none⟩))] (by kernel_rfl) (fun _ _ _ _ _ h => h) (by kernel_rfl) hS91 ?_
                refine h_load 26 13 rfl ⟨bc, 2, none⟩ (.int .i64 (↑(lyK k ((l.length / 256) - f.toNat) (l.length / 256) (rngJ f.toNat ((l.length / 256) - f.toNat)) (T.getD i stD).2.1 (T.getD i stD).2.2.2.2) : Int)) rfl (by kernel_rfl) (by kernel_rfl) (by kernel_rfl) (fun _ _ _ _ _ h => h) (by kernel_rfl) rfl (by kernel_rfl) (by kernel_rfl) (fun V hV => ((hR.below hV).blk.cell (i := 2) rfl)) hS91 ?_
                refine h_one 22 12 rfl (by kernel_rfl) rfl (by kernel_rfl) (op_call (lb := #[]) 16 #[.pointer (some ⟨ba, 0, none⟩)] rfl (by kernel_rfl) (fun _ _ => by kernel_rfl) (by kernel_rfl) ((alloc_Used ba bi _ (lyK k ((l.length / 256) - f.toNat) (l.length / 256) (rngJ f.toNat ((l.length / 256) - f.toNat)) (T.getD i stD).2.1 (T.getD i stD).2.2.2.2) _ hA.blk).mono ?_))
                rintro e W93 ⟨rfl, hb93⟩
                refine ⟨_, rfl, ?_⟩
                replace hB := Bl.next hB hb93
                replace k37_b25 := k37_b25.below hb93
                replace k40 := k40.below hb93
                replace k78 := k78.below hb93
                replace hI := hI.below hb93
                replace hJ := hJ.below hb93
                replace hA := hA.below hb93
                replace hR := hR.below hb93
                replace hv := hv.below hb93
                replace h5 := own_below h5 hb93
                have hS94 : Below (W89).heap.size (W89) (W93) := Bl.next hS91 hb93
                refine ⟨hS94, ?_⟩
                refine h_str (Below (W93).heap.size (W93)) (fun V hV => Bl.next hS94 hV) ?_
                have hS95 : Below (W93).heap.size (W93) (W93) := Below.refl _ _
                refine h_pv [27, 28, 29] 9 rfl #[true, true, true, true, true, true, true, true, true, true, true, true, true, true, true, true, true, true, true, true, true, true, true, true, true, true, true, true, true, true, false, false, false, false, false, false, false, false, false] [(154, .bool ((↑(lyK k ((l.length / 256) - f.toNat) (l.length / 256) (rngJ f.toNat ((l.length / 256) - f.toNat)) (T.getD i stD).2.1 (T.getD i stD).2.2.2.2) : Int) != (↑(lyK k ((l.length / 256) - f.toNat) (l.length / 256) (rngJ f.toNat ((l.length / 256) - f.toNat)) (T.getD i stD).2.1 (T.getD i stD).2.2.2.2) : Int))), (155, .bool ((↑(lyK k ((l.length / 256) - f.toNat) (l.length / 256) (rngJ f.toNat ((l.length / 256) - f.toNat)) (T.getD i stD).2.1 (T.getD i stD).2.2.2.2) : Int) != (↑(lyK k ((l.length / 256) - f.toNat) (l.length / 256) (rngJ f.toNat ((l.length / 256) - f.toNat)) (T.getD i stD).2.1 (T.getD i stD).2.2.2.2) : Int))), (156, .bool ((↑(lyK k ((l.length / 256) - f.toNat) (l.length / 256) (rngJ f.toNat ((l.length / 256) - f.toNat)) (T.getD i stD).2.1 (T.getD i stD).2.2.2.2) : Int) != (↑(lyK k ((l.length / 256) - f.toNat) (l.length / 256) (rngJ f.toNat ((l.length / 256) - f.toNat)) (T.getD i stD).2.1 (T.getD i stD).2.2.2.2) : Int)))] (by kernel_rfl) (fun _ _ _ _ _ h => h) (by kernel_rfl) hS95 ?_
                have hc96 : (((↑(lyK k ((l.length / 256) - f.toNat) (l.length / 256) (rngJ f.toNat ((l.length / 256) - f.toNat)) (T.getD i stD).2.1 (T.getD i stD).2.2.2.2) : Int) != (↑(lyK k ((l.length / 256) - f.toNat) (l.length / 256) (rngJ f.toNat ((l.length / 256) - f.toNat)) (T.getD i stD).2.1 (T.getD i stD).2.2.2.2) : Int)) : Bool) = false := by simp
                refine h_b [154, 155, 156] _ _ hc96 (by kernel_rfl) ?_
                refine h_pv [30, 31, 33, 34] 5 rfl #[true, true, true, true, true, true, true, true, true, true, true, true, true, true, true, true, true, true, true, true, true, true, true, true, true, true, true, true, true, true, true, true, false, true, true, false, false, false, false] [(157, .pointer (some ⟨ba, 0, none⟩)), (158, .int .i64 (↑i : Int)), (160, .pointer (some ⟨bc, 0, none⟩)), (161, .int .i64 (↑i : Int))] (by kernel_rfl) (fun _ _ _ _ _ h => h) (by kernel_rfl) hS95 ?_
                have hs97 : w.heap.size ≤ (W93).heap.size := hB.size
                refine h_one 32 4 rfl (by kernel_rfl) rfl (by kernel_rfl) (op_call (lb := #[]) 31 #[.pointer (some ⟨ba, 0, none⟩), .int .i64 (↑i : Int)] rfl (by kernel_rfl) (fun _ _ => by kernel_rfl) (by kernel_rfl) ((alloc_Ahead w.heap.size ba bi pa ((l.length / 256) - f.toNat) ca (lyK k ((l.length / 256) - f.toNat) (l.length / 256) (rngJ f.toNat ((l.length / 256) - f.toNat)) (T.getD i stD).2.1 (T.getD i stD).2.2.2.2) i (rngJ f.toNat ((l.length / 256) - f.toNat)) _ hA (by omega)).mono ?_))
                rintro e W97 ⟨_, rfl, hb97, q6, c6, rfl, h6⟩
                refine ⟨_, rfl, ?_⟩
                replace hB := Bl.next hB hb97
                replace k37_b25 := k37_b25.below hb97
                replace k40 := k40.below hb97
                replace k78 := k78.below hb97
                replace hI := hI.below hb97
                replace hJ := hJ.below hb97
                replace hA := hA.below hb97
                replace hR := hR.below hb97
                replace hv := hv.below hb97
                replace h5 := own_below h5 hb97
                replace h6 := own_mono h6 hs97
                have hS98 : Below (W93).heap.size (W93) (W97) := Bl.next hS95 hb97
                refine ⟨hS98, ?_⟩
                refine h_str (Below (W97).heap.size (W97)) (fun V hV => Bl.next hS98 hV) ?_
                have hS99 : Below (W97).heap.size (W97) (W97) := Below.refl _ _
                have hs100 : w.heap.size ≤ (W97).heap.size := hB.size
                refine h_one 35 3 rfl (by kernel_rfl) rfl (by kernel_rfl) (op_call (lb := #[]) 32 #[.pointer (some ⟨bc, 0, none⟩), .int .i64 (↑i : Int)] rfl (by kernel_rfl) (fun _ _ => by kernel_rfl) (by kernel_rfl) ((ref_Ahead w.heap.size bc bj pg ((l.length / 256) - f.toNat) cg fa2 m2 fc2 (lyK k ((l.length / 256) - f.toNat) (l.length / 256) (rngJ f.toNat ((l.length / 256) - f.toNat)) (T.getD i stD).2.1 (T.getD i stD).2.2.2.2) i (rngJ f.toNat ((l.length / 256) - f.toNat)) _ hR (by omega)).mono ?_))
                rintro e W100 ⟨_, rfl, hb100, q7, c7, rfl, h7⟩
                refine ⟨_, rfl, ?_⟩
                replace hB := Bl.next hB hb100
                replace k37_b25 := k37_b25.below hb100
                replace k40 := k40.below hb100
                replace k78 := k78.below hb100
                replace hI := hI.below hb100
                replace hJ := hJ.below hb100
                replace hA := hA.below hb100
                replace hR := hR.below hb100
                replace hv := hv.below hb100
                replace h5 := own_below h5 hb100
                replace h6 := own_below h6 hb100
                replace h7 := own_mono h7 hs100
                have hS101 : Below (W97).heap.size (W97) (W100) := Bl.next hS99 hb100
                refine ⟨hS101, ?_⟩
                refine h_str (Below (W100).heap.size (W100)) (fun V hV => Bl.next hS101 hV) ?_
                have hS102 : Below (W100).heap.size (W100) (W100) := Below.refl _ _
                refine h_one 36 2 rfl (by kernel_rfl) rfl (by kernel_rfl) (op_call (lb := #[]) 30 #[.slice q6 (min i (((l.length / 256) - f.toNat) - (lyK k ((l.length / 256) - f.toNat) (l.length / 256) (rngJ f.toNat ((l.length / 256) - f.toNat)) (T.getD i stD).2.1 (T.getD i stD).2.2.2.2))) c6, .slice q7 (min i (((l.length / 256) - f.toNat) - (lyK k ((l.length / 256) - f.toNat) (l.length / 256) (rngJ f.toNat ((l.length / 256) - f.toNat)) (T.getD i stD).2.1 (T.getD i stD).2.2.2.2))) c7] rfl (by kernel_rfl) (fun _ _ => by kernel_rfl) (by kernel_rfl) ((ref01_SameN q6 q7 (min i (((l.length / 256) - f.toNat) - (lyK k ((l.length / 256) - f.toNat) (l.length / 256) (rngJ f.toNat ((l.length / 256) - f.toNat)) (T.getD i stD).2.1 (T.getD i stD).2.2.2.2))) c6 c7 (((rngJ f.toNat ((l.length / 256) - f.toNat)).drop (lyK k ((l.length / 256) - f.toNat) (l.length / 256) (rngJ f.toNat ((l.length / 256) - f.toNat)) (T.getD i stD).2.1 (T.getD i stD).2.2.2.2)).take i) _ (by rw [List.length_take, List.length_drop, hLN]) (own_sl h6) (own_sl h7) (by omega)).mono ?_))
                rintro e W103 ⟨rfl, hb103⟩
                refine ⟨_, rfl, ?_⟩
                replace hB := Bl.next hB hb103
                replace k37_b25 := k37_b25.below hb103
                replace k40 := k40.below hb103
                replace k78 := k78.below hb103
                replace hI := hI.below hb103
                replace hJ := hJ.below hb103
                replace hA := hA.below hb103
                replace hR := hR.below hb103
                replace hv := hv.below hb103
                replace h5 := own_below h5 hb103
                replace h6 := own_below h6 hb103
                replace h7 := own_below h7 hb103
                have hS104 : Below (W100).heap.size (W100) (W103) := Bl.next hS102 hb103
                refine ⟨hS104, ?_⟩
                refine h_str (Below (W103).heap.size (W103)) (fun V hV => Bl.next hS104 hV) ?_
                have hS105 : Below (W103).heap.size (W103) (W103) := Below.refl _ _
                refine h_pv [37, 38] 0 rfl #[true, true, true, true, true, true, true, true, true, true, true, true, true, true, true, true, true, true, true, true, true, true, true, true, true, true, true, true, true, true, true, true, true, true, true, true, true, true, true] [(164, .bool false), (165, .bool false)] (by kernel_rfl) (fun _ _ _ _ _ h => h) (by kernel_rfl) hS105 ?_
                refine h_done _ (by kernel_rfl) ?_
                refine wp_cond_false (by kernel_rfl) ?_
                refine wp_skip ?_
                refine wp_region_lit ?_
                refine g_pv 1 [(85, .int .i64 (↑i : Int))] (by kernel_rfl) ?_
                refine g_op (by kernel_rfl) (op_val (run_wrap .i64 ((↑i : Int) + 1) (↑(i + 1) : Int) (by kernel_rfl) ((show IntKind.i64.wrap ((↑i : Int) + 1) = ((↑i : Int) + 1) from by first | exact IntWalk.i64_in _ (by omega) | (simp only [IntKind.wrap]; omega)).trans (by omega)) _) ?_)
                refine g_pv 1 [(15, .int .i64 (↑(i + 1) : Int))] (by kernel_rfl) ?_
                refine wpList_nil ?_
                refine g_nfr ⟨#[.slice a l.length c, .int .i64 f, .slice aZ Z.length cZ, .slice aT T.length cT, undef, undef, undef, undef, (x37 0), .pointer (some ⟨bi, 0, none⟩), .pointer (some ⟨bj, 0, none⟩), .pointer (some ⟨ba, 0, none⟩), .nilIface, .pointer (some ⟨bc, 0, none⟩), .pointer (some ⟨b25, 0, none⟩), .int .i64 (↑(i + 1) : Int), .pointer (some ⟨b39, 0, none⟩), .int .i64 (lyV k ((l.length / 256) - f.toNat) (l.length / 256) (rngJ f.toNat ((l.length / 256) - f.toNat)) (T.getD i stD).2.1 (T.getD i stD).2.2.2.2), ve, .int .i64 (lyV k ((l.length / 256) - f.toNat) (l.length / 256) (rngJ f.toNat ((l.length / 256) - f.toNat)) (T.getD i stD).2.1 (T.getD i stD).2.2.2.2), .pointer (some ⟨b43, 0, none⟩), .slice a l.length c, .int .i64 (↑l.length : Int), .bool false, .bool false, .slice aT T.length cT, .int .i64 (↑T.length : Int), .bool false, .bool false, .bool false, .slice aZ Z.length cZ, .int .i64 (↑Z.length : Int), .bool (decide ((↑Z.length : Int) > (100 : Int))), .bool (decide ((↑Z.length : Int) > (100 : Int))), undef, .slice a l.length c, .pointer (some ⟨bi, 0, none⟩), .slice a l.length c, .pointer (some ⟨bj, 0, none⟩), .tuple #[.pointer (some ⟨ba, 0, none⟩), .nilIface], .pointer (some ⟨bi, 0, none⟩), .int .i64 f, .tuple #[.pointer (some ⟨ba, 0, none⟩), .nilIface], .pointer (some ⟨ba, 0, none⟩), .nilIface, .tuple #[.pointer (some ⟨bc, 0, none⟩), .agg #[.slice none 0 0, .int .i64 0]], .pointer (some ⟨bj, 0, none⟩), .int .i64 f, .tuple #[.pointer (some ⟨bc, 0, none⟩), .agg #[.slice none 0 0, .int .i64 0]], .pointer (some ⟨bc, 0, none⟩), .agg #[.slice none 0 0, .int .i64 0], .slice aZ Z.length cZ, .int .i64 (↑Z.length : Int), .bool (decide ((↑Z.length : Int) > (0 : Int))), undef, undef, undef, undef, undef, undef, undef, undef, undef, undef, undef, undef, .nilIface, vt31, .agg #[.slice none 0 0, .int .i64 0], .bool true, .bool false, .bool false, .pointer (some ⟨ba, 0, none⟩), .bool false, .pointer (some ⟨bc, 0, none⟩), .bool false, .bool false, .bool false, .pointer (some ⟨ba, 0, none⟩), .bool false, undef, .int .i64 (↑i : Int), .slice aT T.length cT, .int .i64 (↑T.length : Int), .bool (decide ((↑i : Int) < (↑T.length : Int))), .int .i64 (↑i : Int), .int .i64 (↑(i + 1) : Int), .slice aT T.length cT, .int .i64 (↑i : Int), .pointer (some (elemAddr aT (i * 3))), .agg #[.bool ((T.getD i stD).1), .int .i64 ((T.getD i stD).2.1), .slice ((T.getD i stD).2.2.1) ((T.getD i stD).2.2.2.2.length) ((T.getD i stD).2.2.2.1)], .pointer (some ⟨b39, 2, none⟩), .slice ((T.getD i stD).2.2.1) ((T.getD i stD).2.2.2.2.length) ((T.getD i stD).2.2.2.1), .int .i64 (↑((T.getD i stD).2.2.2.2.length) : Int), .bool (decide ((↑((T.getD i stD).2.2.2.2.length) : Int) > (600 : Int))), (x37 20), .agg #[.slice none 0 0, .int .i64 0], .pointer (some ⟨b39, 0, none⟩), .bool ((T.getD i stD).1), (x37 24), (x37 25), (x37 26), (x37 27), (x37 28), (x37 29), (x37 30), (x37 31), (x37 32), (x37 33), .tuple #[.int .i64 (lyV k ((l.length / 256) - f.toNat) (l.length / 256) (rngJ f.toNat ((l.length / 256) - f.toNat)) (T.getD i stD).2.1 (T.getD i stD).2.2.2.2), ve], .pointer (some ⟨ba, 0, none⟩), .pointer (some ⟨b39, 1, none⟩), .int .i64 ((T.getD i stD).2.1), .pointer (some ⟨b39, 2, none⟩), .slice ((T.getD i stD).2.2.1) ((T.getD i stD).2.2.2.2.length) ((T.getD i stD).2.2.2.1), .tuple #[.int .i64 (lyV k ((l.length / 256) - f.toNat) (l.length / 256) (rngJ f.toNat ((l.length / 256) - f.toNat)) (T.getD i stD).2.1 (T.getD i stD).2.2.2.2), ve], .int .i64 (lyV k ((l.length / 256) - f.toNat) (l.length / 256) (rngJ f.toNat ((l.length / 256) - f.toNat)) (T.getD i stD).2.1 (T.getD i stD).2.2.2.2), ve, .tuple #[.int .i64 (lyV k ((l.length / 256) - f.toNat) (l.length / 256) (rngJ f.toNat ((l.length / 256) - f.toNat)) (T.getD i stD).2.1 (T.getD i stD).2.2.2.2), .agg #[.slice a5 ((lyB k ((l.length / 256) - f.toNat) (l.length / 256) (rngJ f.toNat ((l.length / 256) - f.toNat)) (T.getD i stD).2.1 (T.getD i stD).2.2.2.2).length) c5, .int .i64 (lyE k ((l.length / 256) - f.toNat) (l.length / 256) (rngJ f.toNat ((l.length / 256) - f.toNat)) (T.getD i stD).2.1 (T.getD i stD).2.2.2.2)]], .pointer (some ⟨bc, 0, none⟩), .pointer (some ⟨b39, 1, none⟩), .int .i64 ((T.getD i stD).2.1), .pointer (some ⟨b39, 2, none⟩), .slice ((T.getD i stD).2.2.1) ((T.getD i stD).2.2.2.2.length) ((T.getD i stD).2.2.2.1), .tuple #[.int .i64 (lyV k ((l.length / 256) - f.toNat) (l.length / 256) (rngJ f.toNat ((l.length / 256) - f.toNat)) (T.getD i stD).2.1 (T.getD i stD).2.2.2.2), .agg #[.slice a5 ((lyB k ((l.length / 256) - f.toNat) (l.length / 256) (rngJ f.toNat ((l.length / 256) - f.toNat)) (T.getD i stD).2.1 (T.getD i stD).2.2.2.2).length) c5, .int .i64 (lyE k ((l.length / 256) - f.toNat) (l.length / 256) (rngJ f.toNat ((l.length / 256) - f.toNat)) (T.getD i stD).2.1 (T.getD i stD).2.2.2.2)]], .int .i64 (lyV k ((l.length / 256) - f.toNat) (l.length / 256) (rngJ f.toNat ((l.length / 256) - f.toNat)) (T.getD i stD).2.1 (T.getD i stD).2.2.2.2), .agg #[.slice a5 ((lyB k ((l.length / 256) - f.toNat) (l.length / 256) (rngJ f.toNat ((l.length / 256) - f.toNat)) (T.getD i stD).2.1 (T.getD i stD).2.2.2.2).length) c5, .int .i64 (lyE k ((l.length / 256) - f.toNat) (l.length / 256) (rngJ f.toNat ((l.length / 256) - f.toNat)) (T.getD i stD).2.1 (T.getD i stD).2.2.2.2)], .int .i64 (lyV k ((l.length / 256) - f.toNat) (l.length / 256) (rngJ f.toNat ((l.length / 256) - f.toNat)) (T.getD i stD).2.1 (T.getD i stD).2.2.2.2), .int .i64 (lyV k ((l.length / 256) - f.toNat) (l.length / 256) (rngJ f.toNat ((l.length / 256) - f.toNat)) (T.getD i stD).2.1 (T.getD i stD).2.2.2.2), .bool false, .bool false, ve, vt83, .agg #[.slice a5 ((lyB k ((l.length / 256) - f.toNat) (l.length / 256) (rngJ f.toNat ((l.length / 256) - f.toNat)) (T.getD i stD).2.1 (T.getD i stD).2.2.2.2).length) c5, .int .i64 (lyE k ((l.length / 256) - f.toNat) (l.length / 256) (rngJ f.toNat ((l.length / 256) - f.toNat)) (T.getD i stD).2.1 (T.getD i stD).2.2.2.2)], .bool true, .bool false, .bool false, .bool false, .pointer (some ⟨ba, 0, none⟩), .int .i64 (↑(((l.length / 256) - f.toNat) - (lyK k ((l.length / 256) - f.toNat) (l.length / 256) (rngJ f.toNat ((l.length / 256) - f.toNat)) (T.getD i stD).2.1 (T.getD i stD).2.2.2.2)) : Int), .pointer (some ⟨bc, 0, none⟩), .pointer (some ⟨bc, 0, none⟩), .pointer (some ⟨bc, 1, none⟩), .slice fa2 m2 fc2, .int .i64 (↑m2 : Int), .bool false, .bool false, .bool false, .pointer (some ⟨ba, 0, none⟩), .int .i64 (↑(lyK k ((l.length / 256) - f.toNat) (l.length / 256) (rngJ f.toNat ((l.length / 256) - f.toNat)) (T.getD i stD).2.1 (T.getD i stD).2.2.2.2) : Int), .pointer (some ⟨bc, 0, none⟩), .pointer (some ⟨bc, 0, none⟩), .pointer (some ⟨bc, 2, none⟩), .int .i64 (↑(lyK k ((l.length / 256) - f.toNat) (l.length / 256) (rngJ f.toNat ((l.length / 256) - f.toNat)) (T.getD i stD).2.1 (T.getD i stD).2.2.2.2) : Int), .bool false, .bool false, .bool false, .pointer (some ⟨ba, 0, none⟩), .int .i64 (↑i : Int), .slice q6 (min i (((l.length / 256) - f.toNat) - (lyK k ((l.length / 256) - f.toNat) (l.length / 256) (rngJ f.toNat ((l.length / 256) - f.toNat)) (T.getD i stD).2.1 (T.getD i stD).2.2.2.2))) c6, .pointer (some ⟨bc, 0, none⟩), .int .i64 (↑i : Int), .slice q7 (min i (((l.length / 256) - f.toNat) - (lyK k ((l.length / 256) - f.toNat) (l.length / 256) (rngJ f.toNat ((l.length / 256) - f.toNat)) (T.getD i stD).2.1 (T.getD i stD).2.2.2.2))) c7, .bool true, .bool false, .bool false, undef, undef, undef, undef, undef, undef, undef, undef, undef, undef, undef, undef, undef, undef, undef, undef, undef, undef, undef, undef], []⟩ (by kernel_rfl) ?_
                refine ⟨⟨i + 1, (lyK k ((l.length / 256) - f.toNat) (l.length / 256) (rngJ f.toNat ((l.length / 256) - f.toNat)) (T.getD i stD).2.1 (T.getD i stD).2.2.2.2), (lyL k ((l.length / 256) - f.toNat) (l.length / 256) (rngJ f.toNat ((l.length / 256) - f.toNat)) (T.getD i stD).2.1 (T.getD i stD).2.2.2.2 lc), fa2, m2, fc2, (pk [(x37 0), .pointer (some ⟨b39, 0, none⟩), .int .i64 (lyV k ((l.length / 256) - f.toNat) (l.length / 256) (rngJ f.toNat ((l.length / 256) - f.toNat)) (T.getD i stD).2.1 (T.getD i stD).2.2.2.2), ve, .int .i64 (lyV k ((l.length / 256) - f.toNat) (l.length / 256) (rngJ f.toNat ((l.length / 256) - f.toNat)) (T.getD i stD).2.1 (T.getD i stD).2.2.2.2), .pointer (some ⟨b43, 0, none⟩), .int .i64 (↑i : Int), .slice aT T.length cT, .int .i64 (↑T.length : Int), .bool (decide ((↑i : Int) < (↑T.length : Int))), .int .i64 (↑i : Int), .int .i64 (↑(i + 1) : Int), .slice aT T.length cT, .int .i64 (↑i : Int), .pointer (some (elemAddr aT (i * 3))), .agg #[.bool ((T.getD i stD).1), .int .i64 ((T.getD i stD).2.1), .slice ((T.getD i stD).2.2.1) ((T.getD i stD).2.2.2.2.length) ((T.getD i stD).2.2.2.1)], .pointer (some ⟨b39, 2, none⟩), .slice ((T.getD i stD).2.2.1) ((T.getD i stD).2.2.2.2.length) ((T.getD i stD).2.2.2.1), .int .i64 (↑((T.getD i stD).2.2.2.2.length) : Int), .bool (decide ((↑((T.getD i stD).2.2.2.2.length) : Int) > (600 : Int))), (x37 20), .agg #[.slice none 0 0, .int .i64 0], .pointer (some ⟨b39, 0, none⟩), .bool ((T.getD i stD).1), (x37 24), (x37 25), (x37 26), (x37 27), (x37 28), (x37 29), (x37 30), (x37 31), (x37 32), (x37 33), .tuple #[.int .i64 (lyV k ((l.length / 256) - f.toNat) (l.length / 256) (rngJ f.toNat ((l.length / 256) - f.toNat)) (T.getD i stD).2.1 (T.getD i stD).2.2.2.2), ve], .pointer (some ⟨ba, 0, none⟩), .pointer (some ⟨b39, 1, none⟩), .int .i64 ((T.getD i stD).2.1), .pointer (some ⟨b39, 2, none⟩), .slice ((T.getD i stD).2.2.1) ((T.getD i stD).2.2.2.2.length) ((T.getD i stD).2.2.2.1), .tuple #[.int .i64 (lyV k ((l.length / 256) - f.toNat) (l.length / 256) (rngJ f.toNat ((l.length / 256) - f.toNat)) (T.getD i stD).2.1 (T.getD i stD).2.2.2.2), ve], .int .i64 (lyV k ((l.length / 256) - f.toNat) (l.length / 256) (rngJ f.toNat ((l.length / 256) - f.toNat)) (T.getD i stD).2.1 (T.getD i stD).2.2.2.2), ve, .tuple #[.int .i64 (lyV k ((l.length / 256) - f.toNat) (l.length / 256) (rngJ f.toNat ((l.length / 256) - f.toNat)) (T.getD i stD).2.1 (T.getD i stD).2.2.2.2), .agg #[.slice a5 ((lyB k ((l.length / 256) - f.toNat) (l.length / 256) (rngJ f.toNat ((l.length / 256) - f.toNat)) (T.getD i stD).2.1 (T.getD i stD).2.2.2.2).length) c5, .int .i64 (lyE k ((l.length / 256) - f.toNat) (l.length / 256) (rngJ f.toNat ((l.length / 256) - f.toNat)) (T.getD i stD).2.1 (T.getD i stD).2.2.2.2)]], .pointer (some ⟨bc, 0, none⟩), .pointer (some ⟨b39, 1, none⟩), .int .i64 ((T.getD i stD).2.1), .pointer (some ⟨b39, 2, none⟩), .slice ((T.getD i stD).2.2.1) ((T.getD i stD).2.2.2.2.length) ((T.getD i stD).2.2.2.1), .tuple #[.int .i64 (lyV k ((l.length / 256) - f.toNat) (l.length / 256) (rngJ f.toNat ((l.length / 256) - f.toNat)) (T.getD i stD).2.1 (T.getD i stD).2.2.2.2), .agg #[.slice a5 ((lyB k ((l.length / 256) - f.toNat) (l.length / 256) (rngJ f.toNat ((l.length / 256) - f.toNat)) (T.getD i stD).2.1 (T.getD i stD).2.2.2.2).length) c5, .int .i64 (lyE k ((l.length / 256) - f.toNat) (l.length / 256) (rngJ f.toNat ((l.length / 256) - f.toNat)) (T.getD i stD).2.1 (T.getD i stD).2.2.2.2)]], .int .i64 (lyV k ((l.length / 256) - f.toNat) (l.length / 256) (rngJ f.toNat ((l.length / 256) - f.toNat)) (T.getD i stD).2.1 (T.getD i stD).2.2.2.2), .agg #[.slice a5 ((lyB k ((l.length / 256) - f.toNat) (l.length / 256) (rngJ f.toNat ((l.length / 256) - f.toNat)) (T.getD i stD).2.1 (T.getD i stD).2.2.2.2).length) c5, .int .i64 (lyE k ((l.length / 256) - f.toNat) (l.length / 256) (rngJ f.toNat ((l.length / 256) - f.toNat)) (T.getD i stD).2.1 (T.getD i stD).2.2.2.2)], .int .i64 (lyV k ((l.length / 256) - f.toNat) (l.length / 256) (rngJ f.toNat ((l.length / 256) - f.toNat)) (T.getD i stD).2.1 (T.getD i stD).2.2.2.2), .int .i64 (lyV k ((l.length / 256) - f.toNat) (l.length / 256) (rngJ f.toNat ((l.length / 256) - f.toNat)) (T.getD i stD).2.1 (T.getD i stD).2.2.2.2), .bool false, .bool false, ve, vt83, .agg #[.slice a5 ((lyB k ((l.length / 256) - f.toNat) (l.length / 256) (rngJ f.toNat ((l.length / 256) - f.toNat)) (T.getD i stD).2.1 (T.getD i stD).2.2.2.2).length) c5, .int .i64 (lyE k ((l.length / 256) - f.toNat) (l.length / 256) (rngJ f.toNat ((l.length / 256) - f.toNat)) (T.getD i stD).2.1 (T.getD i stD).2.2.2.2)], .bool true, .bool false, .bool false, .bool false, .pointer (some ⟨ba, 0, none⟩), .int .i64 (↑(((l.length / 256) - f.toNat) - (lyK k ((l.length / 256) - f.toNat) (l.length / 256) (rngJ f.toNat ((l.length / 256) - f.toNat)) (T.getD i stD).2.1 (T.getD i stD).2.2.2.2)) : Int), .pointer (some ⟨bc, 0, none⟩), .pointer (some ⟨bc, 0, none⟩), .pointer (some ⟨bc, 1, none⟩), .slice fa2 m2 fc2, .int .i64 (↑m2 : Int), .bool false, .bool false, .bool false, .pointer (some ⟨ba, 0, none⟩), .int .i64 (↑(lyK k ((l.length / 256) - f.toNat) (l.length / 256) (rngJ f.toNat ((l.length / 256) - f.toNat)) (T.getD i stD).2.1 (T.getD i stD).2.2.2.2) : Int), .pointer (some ⟨bc, 0, none⟩), .pointer (some ⟨bc, 0, none⟩), .pointer (some ⟨bc, 2, none⟩), .int .i64 (↑(lyK k ((l.length / 256) - f.toNat) (l.length / 256) (rngJ f.toNat ((l.length / 256) - f.toNat)) (T.getD i stD).2.1 (T.getD i stD).2.2.2.2) : Int), .bool false, .bool false, .bool false, .pointer (some ⟨ba, 0, none⟩), .int .i64 (↑i : Int), .slice q6 (min i (((l.length / 256) - f.toNat) - (lyK k ((l.length / 256) - f.toNat) (l.length / 256) (rngJ f.toNat ((l.length / 256) - f.toNat)) (T.getD i stD).2.1 (T.getD i stD).2.2.2.2))) c6, .pointer (some ⟨bc, 0, none⟩), .int .i64 (↑i : Int), .slice q7 (min i (((l.length / 256) - f.toNat) - (lyK k ((l.length / 256) - f.toNat) (l.length / 256) (rngJ f.toNat ((l.length / 256) - f.toNat)) (T.getD i stD).2.1 (T.getD i stD).2.2.2.2))) c7, .bool true, .bool false, .bool false]), (by kernel_rfl), hB, k37_b25, hA, hR, hI, hJ, by omega⟩, ?_⟩
                show T.length - ((↑(i + 1) : Int)).toNat < T.length - ((↑i : Int)).toNat
                omega
          · have hc38 := of_decide_eq_false hc38
            refine wp_exit ?_
            refine then_exit ?_
            refine then_exit ?_
            refine inBlock_hit ?_
            refine wp_seq ?_
            replace hB := Bl.next hB (below_drew W37)
            replace k37_b25 := k37_b25.below (below_drew W37)
            replace hI := hI.below (below_drew W37)
            replace hJ := hJ.below (below_drew W37)
            replace hA := hA.below (below_drew W37)
            replace hR := hR.below (below_drew W37)
            refine h_reg (Below (W37.drew).heap.size (W37.drew)) 21 rfl #[false, false, false, false, false, false, false, false, false, false, false, false, false, false, false, false, false, false, false, false, false] rfl (by kernel_rfl) (Below.refl _ _) ?_
            intro hS106
            have hBd108 := hB
            refine h_pv [0, 4] 19 rfl #[true, false, false, false, true, false, false, false, false, false, false, false, false, false, false, false, false, false, false, false, false] [(166, .pointer (some ⟨ba, 0, none⟩)), (170, .pointer (some ⟨bj, 0, none⟩))] (by kernel_rfl) (fun _ _ _ _ _ h => h) (by kernel_rfl) hS106 ?_
            refine h_one 1 18 rfl (by kernel_rfl) rfl (by kernel_rfl) (op_call (lb := #[]) 17 #[.pointer (some ⟨ba, 0, none⟩)] rfl (by kernel_rfl) (fun _ _ => by kernel_rfl) (by kernel_rfl) ((allocG_Image w.heap.size ba bi pa ((l.length / 256) - f.toNat) ca k (rngJ f.toNat ((l.length / 256) - f.toNat)) _ hA).mono ?_))
            rintro e W109 ⟨rfl, hb109⟩
            refine ⟨_, rfl, ?_⟩
            replace hB := Bl.next hB hb109
            replace k37_b25 := k37_b25.below hb109
            replace hI := hI.below hb109
            replace hJ := hJ.below hb109
            replace hA := hA.below hb109
            replace hR := hR.below hb109
            have hS110 : Below (W37.drew).heap.size (W37.drew) (W109) := Bl.next hS106 hb109
            refine ⟨hS110, ?_⟩
            refine h_str (Below (W109).heap.size (W109)) (fun V hV => Bl.next hS110 hV) ?_
            have hS111 : Below (W109).heap.size (W109) (W109) := Below.refl _ _
            have hs112 : w.heap.size ≤ (W109).heap.size := hB.size
            refine h_one 2 17 rfl (by kernel_rfl) rfl (by kernel_rfl) (op_call (lb := #[]) 18 #[.pointer (some ⟨bi, 0, none⟩)] rfl (by kernel_rfl) (fun _ _ => by kernel_rfl) (by kernel_rfl) ((image_Bytes bi pi ((l.length / 256) * 256) ci lc _ hI.blk (bys_of (own_sl hI.row) hI.len) hI.len (by omega)).mono ?_))
            rintro e W112 ⟨_, rfl, hb112, z1_⟩
            refine ⟨_, rfl, ?_⟩
            replace hB := Bl.next hB hb112
            replace k37_b25 := k37_b25.below hb112
            replace hI := hI.below hb112
            replace hJ := hJ.below hb112
            replace hA := hA.below hb112
            replace hR := hR.below hb112
            replace z1_ := own_mono z1_ hs112
            unfold OwnB at z1_
            rw [hI.len] at z1_
            obtain ⟨q1_, d1_, rfl⟩ := (own_sl z1_).slice
            have hS113 : Below (W109).heap.size (W109) (W112) := Bl.next hS111 hb112
            refine ⟨hS113, ?_⟩
            refine h_str (Below (W112).heap.size (W112)) (fun V hV => Bl.next hS113 hV) ?_
            have hS114 : Below (W112).heap.size (W112) (W112) := Below.refl _ _
            refine h_val 3 16 rfl (.string ⟨lc.toArray⟩) rfl (by kernel_rfl) (by kernel_rfl) (by kernel_rfl) (fun _ _ _ _ _ h => h) (by kernel_rfl) (fun V hV => run_bstr rfl (by kernel_rfl) (bys_of ((own_sl z1_).below hV) hJ.hl) hJ.hl Tryz.underlying29 Tryz.underlying5 Tryz.underlying9) hS114 ?_
            have hs115 : w.heap.size ≤ (W112).heap.size := hB.size
            refine h_one 5 15 rfl (by kernel_rfl) rfl (by kernel_rfl) (op_call (lb := #[]) 19 #[.pointer (some ⟨bj, 0, none⟩)] rfl (by kernel_rfl) (fun _ _ => by kernel_rfl) (by kernel_rfl) ((ref_ImgBytes w.heap.size bj pj (l.length / 256) cj lc _ hJ).mono ?_))
            rintro e W115 ⟨_, rfl, hb115, q2_, d2_, rfl, z2_⟩
            refine ⟨_, rfl, ?_⟩
            replace hB := Bl.next hB hb115
            replace k37_b25 := k37_b25.below hb115
            replace hI := hI.below hb115
            replace hJ := hJ.below hb115
            replace hA := hA.below hb115
            replace hR := hR.below hb115
            replace z1_ := own_below z1_ hb115
            replace z2_ := own_mono z2_ hs115
            have hS116 : Below (W112).heap.size (W112) (W115) := Bl.next hS114 hb115
            refine ⟨hS116, ?_⟩
            refine h_str (Below (W115).heap.size (W115)) (fun V hV => Bl.next hS116 hV) ?_
            have hS117 : Below (W115).heap.size (W115) (W115) := Below.refl _ _
            refine h_val 6 14 rfl (.string ⟨lc.toArray⟩) rfl (by kernel_rfl) (by kernel_rfl) (by kernel_rfl) (fun _ _ _ _ _ h => h) (by kernel_rfl) (fun V hV => run_bstr rfl (by kernel_rfl) (bys_of ((own_sl z2_).below hV) hJ.hl) hJ.hl Tryz.underlying29 Tryz.underlying5 Tryz.underlying9) hS117 ?_
            refine h_pv [7, 8] 12 rfl #[true, true, true, true, true, true, true, true, true, false, false, false, false, false, false, false, false, false, false, false, false] [(173, .bool ((⟨lc.toArray⟩ : ByteArray).toList == (⟨lc.toArray⟩ : ByteArray).toList)), (174, .bool ((⟨lc.toArray⟩ : ByteArray).toList == (⟨lc.toArray⟩ : ByteArray).toList))] (by kernel_rfl) (fun _ _ _ _ _ h => h) (by kernel_rfl) hS117 ?_
            have hc118 : (((⟨lc.toArray⟩ : ByteArray).toList == (⟨lc.toArray⟩ : ByteArray).toList) : Bool) = true := by simp
            refine h_b [173, 174] _ _ hc118 (by kernel_rfl) ?_
            refine h_pv [9, 12] 10 rfl #[true, true, true, true, true, true, true, true, true, true, false, false, true, false, false, false, false, false, false, false, false] [(175, .pointer (some ⟨bi, 0, none⟩)), (178, .pointer (some ⟨bj, 0, none⟩))] (by kernel_rfl) (fun _ _ _ _ _ h => h) (by kernel_rfl) hS117 ?_
            have hs119 : w.heap.size ≤ (W115).heap.size := hB.size
            refine h_one 10 9 rfl (by kernel_rfl) rfl (by kernel_rfl) (op_call (lb := #[]) 18 #[.pointer (some ⟨bi, 0, none⟩)] rfl (by kernel_rfl) (fun _ _ => by kernel_rfl) (by kernel_rfl) ((image_Bytes bi pi ((l.length / 256) * 256) ci lc _ hI.blk (bys_of (own_sl hI.row) hI.len) hI.len (by omega)).mono ?_))
            rintro e W119 ⟨_, rfl, hb119, z3_⟩
            refine ⟨_, rfl, ?_⟩
            replace hB := Bl.next hB hb119
            replace k37_b25 := k37_b25.below hb119
            replace hI := hI.below hb119
            replace hJ := hJ.below hb119
            replace hA := hA.below hb119
            replace hR := hR.below hb119
            replace z1_ := own_below z1_ hb119
            replace z2_ := own_below z2_ hb119
            replace z3_ := own_mono z3_ hs119
            unfold OwnB at z3_
            rw [hI.len] at z3_
            obtain ⟨q3_, d3_, rfl⟩ := (own_sl z3_).slice
            have hS120 : Below (W115).heap.size (W115) (W119) := Bl.next hS117 hb119
            refine ⟨hS120, ?_⟩
            refine h_str (Below (W119).heap.size (W119)) (fun V hV => Bl.next hS120 hV) ?_
            have hS121 : Below (W119).heap.size (W119) (W119) := Below.refl _ _
            refine h_val 11 8 rfl (.string ⟨lc.toArray⟩) rfl (by kernel_rfl) (by kernel_rfl) (by kernel_rfl) (fun _ _ _ _ _ h => h) (by kernel_rfl) (fun V hV => run_bstr rfl (by kernel_rfl) (bys_of ((own_sl z3_).below hV) hJ.hl) hJ.hl Tryz.underlying29 Tryz.underlying5 Tryz.underlying9) hS121 ?_
            have hs122 : w.heap.size ≤ (W119).heap.size := hB.size
            refine h_one 13 7 rfl (by kernel_rfl) rfl (by kernel_rfl) (op_call (lb := #[]) 19 #[.pointer (some ⟨bj, 0, none⟩)] rfl (by kernel_rfl) (fun _ _ => by kernel_rfl) (by kernel_rfl) ((ref_ImgBytes w.heap.size bj pj (l.length / 256) cj lc _ hJ).mono ?_))
            rintro e W122 ⟨_, rfl, hb122, q4_, d4_, rfl, z4_⟩
            refine ⟨_, rfl, ?_⟩
            replace hB := Bl.next hB hb122
            replace k37_b25 := k37_b25.below hb122
            replace hI := hI.below hb122
            replace hJ := hJ.below hb122
            replace hA := hA.below hb122
            replace hR := hR.below hb122
            replace z1_ := own_below z1_ hb122
            replace z2_ := own_below z2_ hb122
            replace z3_ := own_below z3_ hb122
            replace z4_ := own_mono z4_ hs122
            have hS123 : Below (W119).heap.size (W119) (W122) := Bl.next hS121 hb122
            refine ⟨hS123, ?_⟩
            refine h_str (Below (W122).heap.size (W122)) (fun V hV => Bl.next hS123 hV) ?_
            have hS124 : Below (W122).heap.size (W122) (W122) := Below.refl _ _
            refine h_val 14 6 rfl (.string ⟨lc.toArray⟩) rfl (by kernel_rfl) (by kernel_rfl) (by kernel_rfl) (fun _ _ _ _ _ h => h) (by kernel_rfl) (fun V hV => run_bstr rfl (by kernel_rfl) (bys_of ((own_sl z4_).below hV) hJ.hl) hJ.hl Tryz.underlying29 Tryz.underlying5 Tryz.underlying9) hS124 ?_
            refine h_pv [15, 16, 17] 3 rfl #[true, true, true, true, true, true, true, true, true, true, true, true, true, true, true, true, true, true, false, false, false] [(181, .bool ((⟨lc.toArray⟩ : ByteArray).toList == (⟨lc.toArray⟩ : ByteArray).toList)), (182, .bool ((⟨lc.toArray⟩ : ByteArray).toList == (⟨lc.toArray⟩ : ByteArray).toList)), (183, .bool ((⟨lc.toArray⟩ : ByteArray).toList == (⟨lc.toArray⟩ : ByteArray).toList))] (by kernel_rfl) (fun _ _ _ _ _ h => h) (by kernel_rfl) hS124 ?_
            have hc125 : (((⟨lc.toArray⟩ : ByteArray).toList == (⟨lc.toArray⟩ : ByteArray).toList) : Bool) = true := by simp
            refine h_b [181, 182, 183] _ _ hc125 (by kernel_rfl) ?_
            refine h_one 18 2 rfl (by kernel_rfl) rfl (by kernel_rfl) (op_call (lb := #[]) 20 #[] rfl (by kernel_rfl) (fun _ _ => by kernel_rfl) (by kernel_rfl) ((lives16 _).mono ?_))
            rintro e W126 ⟨rfl, hb126⟩
            refine ⟨_, rfl, ?_⟩
            replace hB := Bl.next hB hb126
            replace k37_b25 := k37_b25.below hb126
            replace hI := hI.below hb126
            replace hJ := hJ.below hb126
            replace hA := hA.below hb126
            replace hR := hR.below hb126
            replace z1_ := own_below z1_ hb126
            replace z2_ := own_below z2_ hb126
            replace z3_ := own_below z3_ hb126
            replace z4_ := own_below z4_ hb126
            have hS127 : Below (W122).heap.size (W122) (W126) := Bl.next hS124 hb126
            refine ⟨hS127, ?_⟩
            refine h_str (Below (W126).heap.size (W126)) (fun V hV => Bl.next hS127 hV) ?_
            have hS128 : Below (W126).heap.size (W126) (W126) := Below.refl _ _
            refine h_pv [19, 20] 0 rfl #[true, true, true, true, true, true, true, true, true, true, true, true, true, true, true, true, true, true, true, true, true] [(185, .bool true), (8, .bool true)] (by kernel_rfl) (fun _ _ _ _ _ h => h) (by kernel_rfl) hS128 ?_
            refine h_done _ (by kernel_rfl) ?_
            refine wp_ret ?_
            exact g_ret (.bool true) (by kernel_rfl) (by kernel_rfl) ⟨rfl, hB⟩
set_option maxRecDepth 100000 in
set_option maxHeartbeats 8000000 in
theorem allocPlays_B (a : Option Addr) (c : Nat) (l : List UInt8) (f : Int) (aZ : Option Addr) (cZ : Nat) (Z : List Int) (aT : Option Addr) (cT : Nat) (T : List StT) (w : World) (h : Bys w (.slice a l.length c) l) (hZ : Sl w (.slice aZ Z.length cZ) Z.length (Z.map (Value.int .i64))) (hZc : aZ = none → cZ = 0) (hT : Sts stC w (.slice aT T.length cT) T) (hTb : ∀ i, i < T.length → Bys w (.slice (T.getD i stD).2.2.1 (T.getD i stD).2.2.2.2.length (T.getD i stD).2.2.2.1) (T.getD i stD).2.2.2.2) (hg : ErrT w) (hZ0 : 0 < Z.length) :
    Calls Tryz.prog 4 #[.slice a l.length c, .int .i64 f, .slice aZ Z.length cZ, .slice aT T.length cT] w (Ret (.bool true) w) := by
  have hcap := h.cap rfl
  have hLN : Z.length = Z.length := rfl
  refine calls_of_wp Tryz.func4 rfl ?_
  refine g_fr ⟨#[.slice a l.length c, .int .i64 f, .slice aZ Z.length cZ, .slice aT T.length cT, undef, undef, undef, undef, undef, undef, undef, undef, undef, undef, undef, undef, undef, undef, undef, undef, undef, undef, undef, undef, undef, undef, undef, undef, undef, undef, undef, undef, undef, undef, undef, undef, undef, undef, undef, undef, undef, undef, undef, undef, undef, undef, undef, undef, undef, undef, undef, undef, undef, undef, undef, undef, undef, undef, undef, undef, undef, undef, undef, undef, undef, undef, undef, undef, undef, undef, undef, undef, undef, undef, undef, undef, undef, undef, undef, undef, undef, undef, undef, undef, undef, undef, undef, undef, undef, undef, undef, undef, undef, undef, undef, undef, undef, undef, undef, undef, undef, undef, undef, undef, undef, undef, undef, undef, undef, undef, undef, undef, undef, undef, undef, undef, undef, undef, undef, undef, undef, undef, undef, undef, undef, undef, undef, undef, undef, undef, undef, undef, undef, undef, undef, undef, undef, undef, undef, undef, undef, undef, undef, undef, undef, undef, undef, undef, undef, undef, undef, undef, undef, undef, undef, undef, undef, undef, undef, undef, undef, undef, undef, undef, undef, undef, undef, undef, undef, undef, undef, undef, undef, undef, undef, undef, undef, undef, undef, undef, undef, undef, undef, undef, undef, undef], []⟩ (by kernel_rfl) ?_
  refine wp_seq ?_
  refine wp_region_lit ?_
  refine g_pv 1 [(8, .bool false)] (by kernel_rfl) ?_
  refine wpList_nil ?_
  refine wp_seq ?_
  refine wp_seq ?_
  refine wp_region_lit ?_
  refine g_pv 4 [(21, .slice a l.length c), (22, .int .i64 (↑l.length : Int)), (23, .bool (decide ((↑l.length : Int) > (6000 : Int)))), (24, .bool (decide ((↑l.length : Int) > (6000 : Int))))] (by kernel_rfl) ?_
  rcases Bool.eq_false_or_eq_true (decide ((↑l.length : Int) > (6000 : Int))) with hc1 | hc1
  · refine g_b [23, 24] _ _ hc1 (by kernel_rfl) ?_
    have hc1 := of_decide_eq_true hc1
    refine g_pv 9 [(25, undef), (26, undef), (27, undef), (28, .bool true), (29, .bool true), (30, undef), (31, undef), (32, undef), (33, .bool true)] (by kernel_rfl) ?_
    refine wpList_nil ?_
    refine wp_cond_true (by kernel_rfl) ?_
    refine wp_seq ?_
    refine wp_region_lit ?_
    refine g_op (by kernel_rfl) (op_call (lb := #[]) 20 #[] rfl (by kernel_rfl) (fun _ _ => by kernel_rfl) (by kernel_rfl) ((lives16 _).mono ?_))
    rintro e W2 ⟨rfl, hb2⟩
    refine ⟨_, rfl, ?_⟩
    have hB := hb2
    refine g_pv 1 [(8, .bool true)] (by kernel_rfl) ?_
    refine wpList_nil ?_
    refine wp_ret (then_ret ?_)
    exact g_ret (.bool true) (by kernel_rfl) (by kernel_rfl) ⟨rfl, hB⟩
  · refine g_b [23, 24] _ _ hc1 (by kernel_rfl) ?_
    have hc1 := of_decide_eq_false hc1
    refine g_pv 5 [(25, .slice aT T.length cT), (26, .int .i64 (↑T.length : Int)), (27, .bool (decide ((↑T.length : Int) > (30 : Int)))), (28, .bool (decide ((↑T.length : Int) > (30 : Int)))), (29, .bool (decide ((↑T.length : Int) > (30 : Int))))] (by kernel_rfl) ?_
    rcases Bool.eq_false_or_eq_true (decide ((↑T.length : Int) > (30 : Int))) with hc3 | hc3
    · refine g_b [27, 28, 29] _ _ hc3 (by kernel_rfl) ?_
      have hc3 := of_decide_eq_true hc3
      refine g_pv 4 [(30, undef), (31, undef), (32, undef), (33, .bool true)] (by kernel_rfl) ?_
      refine wpList_nil ?_
      refine wp_cond_true (by kernel_rfl) ?_
      refine wp_seq ?_
      refine wp_region_lit ?_
      refine g_op (by kernel_rfl) (op_call (lb := #[]) 20 #[] rfl (by kernel_rfl) (fun _ _ => by kernel_rfl) (by kernel_rfl) ((lives16 _).mono ?_))
      rintro e W4 ⟨rfl, hb4⟩
      refine ⟨_, rfl, ?_⟩
      have hB := hb4
      refine g_pv 1 [(8, .bool true)] (by kernel_rfl) ?_
      refine wpList_nil ?_
      refine wp_ret (then_ret ?_)
      exact g_ret (.bool true) (by kernel_rfl) (by kernel_rfl) ⟨rfl, hB⟩
    · refine g_b [27, 28, 29] _ _ hc3 (by kernel_rfl) ?_
      have hc3 := of_decide_eq_false hc3
      refine g_pv 4 [(30, .slice aZ Z.length cZ), (31, .int .i64 (↑Z.length : Int)), (32, .bool (decide ((↑Z.length : Int) > (100 : Int)))), (33, .bool (decide ((↑Z.length : Int) > (100 : Int))))] (by kernel_rfl) ?_
      refine wpList_nil ?_
      refine wp_cond_split (t := decide ((↑Z.length : Int) > (100 : Int))) (by kernel_rfl) (fun hc5 => ?_) (fun hc5 => ?_)
      · have hc5 := of_decide_eq_true hc5
        refine wp_seq ?_
        refine wp_region_lit ?_
        refine g_op (by kernel_rfl) (op_call (lb := #[]) 20 #[] rfl (by kernel_rfl) (fun _ _ => by kernel_rfl) (by kernel_rfl) ((lives16 _).mono ?_))
        rintro e W6 ⟨rfl, hb6⟩
        refine ⟨_, rfl, ?_⟩
        have hB := hb6
        refine g_pv 1 [(8, .bool true)] (by kernel_rfl) ?_
        refine wpList_nil ?_
        refine wp_ret (then_ret ?_)
        exact g_ret (.bool true) (by kernel_rfl) (by kernel_rfl) ⟨rfl, hB⟩
      · have hc5 := of_decide_eq_false hc5
        refine wp_skip ?_
        refine wp_seq ?_
        refine wp_region_lit ?_
        refine g_pv 1 [(35, .slice a l.length c)] (by kernel_rfl) ?_
        have hs8 : w.heap.size ≤ (w).heap.size := (Below.refl w.heap.size _).size
        refine g_op (by kernel_rfl) (op_call (lb := #[]) 21 #[.slice a l.length c] rfl (by kernel_rfl) (fun _ _ => by kernel_rfl) (by kernel_rfl) ((image_OfR a c l.length ((l.length / 256) * 256) l _ rfl (by omega) (h.below (Below.refl w.heap.size _)) (by omega) hcap).mono ?_))
        rintro e W7 ⟨_, rfl, hb7, bi, pi, ci, rfl, _, hI⟩
        refine ⟨_, rfl, ?_⟩
        have hB := hb7
        replace hI := hI.mono hs8
        refine g_pv 1 [(37, .slice a l.length c)] (by kernel_rfl) ?_
        have hs9 : w.heap.size ≤ (W7).heap.size := hB.size
        refine g_op (by kernel_rfl) (op_call (lb := #[]) 9 #[.slice a l.length c] rfl (by kernel_rfl) (fun _ _ => by kernel_rfl) (by kernel_rfl) ((ref_OfN a c l.length (l.length / 256) l _ rfl (by omega) (h.below hB) (by omega)).mono ?_))
        rintro e W8 ⟨_, rfl, hb8, bj, pj, cj, rfl, _, hJ⟩
        refine ⟨_, rfl, ?_⟩
        replace hB := Bl.next hB hb8
        replace hI := hI.below hb8
        replace hJ := hJ.mono hs9
        refine g_pv 2 [(9, .pointer (some ⟨bi, 0, none⟩)), (10, .pointer (some ⟨bj, 0, none⟩))] (by kernel_rfl) ?_
        refine wpList_nil ?_
        refine wp_seq ?_
        refine wp_region_lit ?_
        refine g_pv 2 [(40, .pointer (some ⟨bi, 0, none⟩)), (41, .int .i64 f)] (by kernel_rfl) ?_
        refine g_op (by kernel_rfl) (op_call (lb := #[]) 22 #[.pointer (some ⟨bi, 0, none⟩), .int .i64 f] rfl (by kernel_rfl) (fun _ _ => by kernel_rfl) (by kernel_rfl) ((alloc_NewAny bi pi ((l.length / 256) * 256) ci (l.length / 256) f _ hI.blk (by omega) rfl).mono ?_))
        rintro e W9 ⟨v1, v2, rfl, hb9⟩
        refine ⟨_, rfl, ?_⟩
        replace hB := Bl.next hB hb9
        replace hI := hI.below hb9
        replace hJ := hJ.below hb9
        refine g_pv 5 [(39, .tuple #[v1, v2]), (43, v1), (44, v2), (11, v1), (12, v2)] (by kernel_rfl) ?_
        refine wpList_nil ?_
        refine wp_seq ?_
        refine wp_region_lit ?_
        refine g_pv 2 [(46, .pointer (some ⟨bj, 0, none⟩)), (47, .int .i64 f)] (by kernel_rfl) ?_
        refine g_op (by kernel_rfl) (op_call (lb := #[]) 10 #[.pointer (some ⟨bj, 0, none⟩), .int .i64 f] rfl (by kernel_rfl) (fun _ _ => by kernel_rfl) (by kernel_rfl) ((ref_NewAny bj pj (l.length / 256) cj (l.take (l.length / 256 * 256)) _ f _ hJ).mono ?_))
        rintro e W10 ⟨v3, er3, rfl, hb10⟩
        refine ⟨_, rfl, ?_⟩
        replace hB := Bl.next hB hb10
        replace hI := hI.below hb10
        replace hJ := hJ.below hb10
        refine g_pv 3 [(45, .tuple #[v3, .agg #[.slice none 0 0, .int .i64 er3]]), (49, v3), (50, .agg #[.slice none 0 0, .int .i64 er3])] (by kernel_rfl) ?_
        refine g_op (by kernel_rfl) (op_alloc [.slice none 0 0, .int .i64 0] rfl (by kernel_rfl) ?_)
        intro b11 W11 n11
        have g11 := n11.ge hB
        replace hB := Bl.next hB n11.below
        replace hI := hI.below n11.below
        replace hJ := hJ.below n11.below
        have k11 := n11.blk
        refine g_pv 1 [(13, v3)] (by kernel_rfl) ?_
        refine g_op (by kernel_rfl) (op_storev (b := b11) (off := 0) [.slice none 0 0, .int .i64 er3] rfl (by kernel_rfl) (by kernel_rfl) (by kernel_rfl) (by first | decide | simp [Value.oneCell']) k11 (by first | decide | simp) ?_)
        intro W12 u12 k12
        change Blk _ _ [.slice none 0 0, .int .i64 er3] _ at k12
        replace hB := u12.below hB g11
        replace hI := hI.only (Only.of_upd (T := [33]) u12 k11 (by decide)) (by decide)
        replace hJ := hJ.only (Only.of_upd (T := [33]) u12 k11 (by decide)) (by decide)
        refine wpList_nil ?_
        refine wp_seq ?_
        refine wp_seq ?_
        refine wp_region_lit ?_
        refine g_pv 3 [(51, .slice aZ Z.length cZ), (52, .int .i64 (↑Z.length : Int)), (53, .bool (decide ((↑Z.length : Int) > (0 : Int))))] (by kernel_rfl) ?_
        refine wpList_nil ?_
        refine wp_cond_split (t := decide ((↑Z.length : Int) > (0 : Int))) (by kernel_rfl) (fun _ => ?_) (fun hh => absurd (hh.symm.trans (show (decide ((↑Z.length : Int) > (0 : Int)) : Bool) = true from decide_eq_true (by omega))) (by decide))
        refine wp_seq ?_
        refine wp_region_lit ?_
        refine g_pv 2 [(55, .pointer (some ⟨bi, 0, none⟩)), (56, .slice aZ Z.length cZ)] (by kernel_rfl) ?_
        have hw9 : w.heap.size ≤ (W12).heap.size := hB.size
        refine g_op (by kernel_rfl) (op_call (lb := #[]) 23 #[.pointer (some ⟨bi, 0, none⟩), .slice aZ Z.length cZ] rfl (by kernel_rfl) (fun _ _ => by kernel_rfl) (by kernel_rfl) ((alloc_FromN bi pi ((l.length / 256) * 256) ci (l.length / 256) aZ cZ Z _ hI.blk (by omega) rfl (hZ.below hB) hZc (by omega)).mono ?_))
        rintro e W14 hq14
        rcases hq14 with ⟨he, rfl, hb14⟩ | ⟨he, ba, pa, ca, rfl, hb14, hA⟩
        · refine ⟨_, rfl, ?_⟩
          replace hB := Bl.next hB hb14
          replace k12 := k12.below hb14
          replace hI := hI.below hb14
          replace hJ := hJ.below hb14
          refine g_pv 5 [(54, .tuple #[.pointer none, .iface 40 (.int .i64 (fromE (l.length / 256) Z))]), (58, .pointer none), (59, .iface 40 (.int .i64 (fromE (l.length / 256) Z))), (11, .pointer none), (12, .iface 40 (.int .i64 (fromE (l.length / 256) Z)))] (by kernel_rfl) ?_
          refine wpList_nil ?_
          refine wp_region_lit ?_
          refine g_pv 2 [(61, .pointer (some ⟨bj, 0, none⟩)), (62, .slice aZ Z.length cZ)] (by kernel_rfl) ?_
          refine g_op (by kernel_rfl) (op_call (lb := #[]) 24 #[.pointer (some ⟨bj, 0, none⟩), .slice aZ Z.length cZ] rfl (by kernel_rfl) (fun _ _ => by kernel_rfl) (by kernel_rfl) ((ref_From_e bj pj (l.length / 256) cj aZ cZ Z _ hJ.blk hJ.hk (hZ.below hB) (by omega) he).mono ?_))
          rintro e W15 ⟨rfl, hb15⟩
          refine ⟨_, rfl, ?_⟩
          replace hB := Bl.next hB hb15
          replace k12 := k12.below hb15
          replace hI := hI.below hb15
          replace hJ := hJ.below hb15
          refine g_pv 4 [(60, .tuple #[.pointer none, .agg #[.slice none 0 0, .int .i64 (fromE (l.length / 256) Z)]]), (64, .pointer none), (65, .agg #[.slice none 0 0, .int .i64 (fromE (l.length / 256) Z)]), (13, .pointer none)] (by kernel_rfl) ?_
          refine g_op (by kernel_rfl) (op_storev (b := b11) (off := 0) [.slice none 0 0, .int .i64 (fromE (l.length / 256) Z)] rfl (by kernel_rfl) (by kernel_rfl) (by kernel_rfl) (by first | decide | simp [Value.oneCell']) k12 (by first | decide | simp) ?_)
          intro W16 u16 k16
          change Blk _ _ [.slice none 0 0, .int .i64 (fromE (l.length / 256) Z)] _ at k16
          replace hB := u16.below hB g11
          replace hI := hI.only (Only.of_upd (T := [33]) u16 k12 (by decide)) (by decide)
          replace hJ := hJ.only (Only.of_upd (T := [33]) u16 k12 (by decide)) (by decide)
          refine wpList_nil ?_
          refine wp_seq ?_
          refine wp_seq ?_
          replace hB := Bl.next hB (below_drew W16)
          replace k16 := k16.below (below_drew W16)
          replace hI := hI.below (below_drew W16)
          replace hJ := hJ.below (below_drew W16)
          refine h_reg (Below (W16.drew).heap.size (W16.drew)) 12 rfl #[false, false, false, false, false, false, false, false, false, false, false, false] rfl (by kernel_rfl) (Below.refl _ _) ?_
          intro hS17
          have hBd19 := hB
          have kd19_b11 := k16
          refine h_pv [0] 11 rfl #[true, false, false, false, false, false, false, false, false, false, false, false] [(66, .iface 40 (.int .i64 (fromE (l.length / 256) Z)))] (by kernel_rfl) (fun _ _ _ _ _ h => h) (by kernel_rfl) hS17 ?_
          refine h_loadv (b := b11) (off := 0) 2 10 rfl [.slice none 0 0, .int .i64 (fromE (l.length / 256) Z)] _ rfl (by kernel_rfl) (by kernel_rfl) (by kernel_rfl) (fun _ _ _ _ _ h => h) (by kernel_rfl) rfl (by kernel_rfl) Tryz.underlying33 rfl (by kernel_rfl) (fun V hV => (k16.below hV).whole) hS17 ?_
          refine h_one 1 9 rfl (by kernel_rfl) rfl (by kernel_rfl) (op_call (lb := #[]) 15 #[.iface 40 (.int .i64 (fromE (l.length / 256) Z))] rfl (by kernel_rfl) (fun _ _ => by kernel_rfl) (by kernel_rfl) ((told_z (fromE (l.length / 256) Z) _ _ (hg.below hB) (by first | exact rfl | (rw [erT, if_neg he]; exact rfl))).mono ?_))
          rintro e W20 ⟨vt20, rfl, hb20, hq⟩
          refine ⟨_, rfl, ?_⟩
          replace hB := Bl.next hB hb20
          replace k16 := k16.below hb20
          replace hI := hI.below hb20
          replace hJ := hJ.below hb20
          have hS21 : Below (W16.drew).heap.size (W16.drew) (W20) := Bl.next hS17 hb20
          refine ⟨hS21, ?_⟩
          refine h_str (Below (W20).heap.size (W20)) (fun V hV => Bl.next hS21 hV) ?_
          have hS22 : Below (W20).heap.size (W20) (W20) := Below.refl _ _
          refine h_one 3 8 rfl (by kernel_rfl) rfl (by kernel_rfl) (op_call (lb := #[]) 14 #[vt20, .agg #[.slice none 0 0, .int .i64 (fromE (l.length / 256) Z)]] rfl (by kernel_rfl) (fun _ _ => by kernel_rfl) (by kernel_rfl) ((ref05_Same [] (fromE (l.length / 256) Z) vt20 _ _ hq ⟨_, rfl, ints_nil0 _⟩).mono ?_))
          rintro e W23 ⟨rfl, hb23⟩
          refine ⟨_, rfl, ?_⟩
          replace hB := Bl.next hB hb23
          replace k16 := k16.below hb23
          replace hI := hI.below hb23
          replace hJ := hJ.below hb23
          replace hq := hq.below hb23
          have hS24 : Below (W20).heap.size (W20) (W23) := Bl.next hS22 hb23
          refine ⟨hS24, ?_⟩
          refine h_str (Below (W23).heap.size (W23)) (fun V hV => Bl.next hS24 hV) ?_
          have hS25 : Below (W23).heap.size (W23) (W23) := Below.refl _ _
          refine h_pv [4, 5, 6, 7, 8, 9, 10, 11] 0 rfl #[true, true, true, true, true, true, true, true, true, true, true, true] [(70, .bool false), (71, .bool false), (72, .pointer none), (73, .bool true), (74, .pointer none), (75, .bool true), (76, .bool false), (77, .bool false)] (by kernel_rfl) (fun _ _ _ _ _ h => h) (by kernel_rfl) hS25 ?_
          refine h_done _ (by kernel_rfl) ?_
          refine wp_cond_false (by kernel_rfl) ?_
          refine wp_skip ?_
          refine wp_seq ?_
          refine wp_seq ?_
          refine wp_region_lit ?_
          refine g_pv 2 [(78, .pointer none), (79, .bool true)] (by kernel_rfl) ?_
          refine wpList_nil ?_
          refine wp_cond_true (by kernel_rfl) ?_
          refine wp_seq ?_
          refine wp_region_lit ?_
          refine g_op (by kernel_rfl) (op_call (lb := #[]) 20 #[] rfl (by kernel_rfl) (fun _ _ => by kernel_rfl) (by kernel_rfl) ((lives16 _).mono ?_))
          rintro e W26 ⟨rfl, hb26⟩
          refine ⟨_, rfl, ?_⟩
          replace hB := Bl.next hB hb26
          replace k16 := k16.below hb26
          replace hI := hI.below hb26
          replace hJ := hJ.below hb26
          refine g_pv 1 [(8, .bool true)] (by kernel_rfl) ?_
          refine wpList_nil ?_
          refine wp_ret (then_ret ?_)
          exact g_ret (.bool true) (by kernel_rfl) (by kernel_rfl) ⟨rfl, hB⟩
        · refine ⟨_, rfl, ?_⟩
          replace hB := Bl.next hB hb14
          replace k12 := k12.below hb14
          replace hI := hI.below hb14
          replace hJ := hJ.below hb14
          replace hA := hA.mono hw9
          have hgood := fromE_good he
          refine g_pv 5 [(54, .tuple #[.pointer (some ⟨ba, 0, none⟩), .nilIface]), (58, .pointer (some ⟨ba, 0, none⟩)), (59, .nilIface), (11, .pointer (some ⟨ba, 0, none⟩)), (12, .nilIface)] (by kernel_rfl) ?_
          refine wpList_nil ?_
          refine wp_region_lit ?_
          refine g_pv 2 [(61, .pointer (some ⟨bj, 0, none⟩)), (62, .slice aZ Z.length cZ)] (by kernel_rfl) ?_
          have hw7 : w.heap.size ≤ (W14).heap.size := hB.size
          refine g_op (by kernel_rfl) (op_call (lb := #[]) 24 #[.pointer (some ⟨bj, 0, none⟩), .slice aZ Z.length cZ] rfl (by kernel_rfl) (fun _ _ => by kernel_rfl) (by kernel_rfl) ((ref_From_o bj pj (l.length / 256) cj aZ cZ Z _ hJ.blk hJ.hk (hZ.below hB) (by omega) he).mono ?_))
          rintro e W27 ⟨bc, pg, cg, rfl, hb27, hR⟩
          refine ⟨_, rfl, ?_⟩
          replace hB := Bl.next hB hb27
          replace k12 := k12.below hb27
          replace hI := hI.below hb27
          replace hJ := hJ.below hb27
          replace hA := hA.below hb27
          replace hR := hR.mono hw7
          refine g_pv 4 [(60, .tuple #[.pointer (some ⟨bc, 0, none⟩), .agg #[.slice none 0 0, .int .i64 0]]), (64, .pointer (some ⟨bc, 0, none⟩)), (65, .agg #[.slice none 0 0, .int .i64 0]), (13, .pointer (some ⟨bc, 0, none⟩))] (by kernel_rfl) ?_
          refine g_op (by kernel_rfl) (op_storev (b := b11) (off := 0) [.slice none 0 0, .int .i64 0] rfl (by kernel_rfl) (by kernel_rfl) (by kernel_rfl) (by first | decide | simp [Value.oneCell']) k12 (by first | decide | simp) ?_)
          intro W28 u28 k28
          change Blk _ _ [.slice none 0 0, .int .i64 0] _ at k28
          replace hB := u28.below hB g11
          replace hI := hI.only (Only.of_upd (T := [33]) u28 k12 (by decide)) (by decide)
          replace hJ := hJ.only (Only.of_upd (T := [33]) u28 k12 (by decide)) (by decide)
          replace hA := hA.only (Only.of_upd (T := [33]) u28 k12 (by decide)) (by decide)
          replace hR := hR.only (Only.of_upd (T := [33]) u28 k12 (by decide)) (by decide)
          refine wpList_nil ?_
          refine wp_seq ?_
          refine wp_seq ?_
          replace hB := Bl.next hB (below_drew W28)
          replace k28 := k28.below (below_drew W28)
          replace hI := hI.below (below_drew W28)
          replace hJ := hJ.below (below_drew W28)
          replace hA := hA.below (below_drew W28)
          replace hR := hR.below (below_drew W28)
          refine h_reg (Below (W28.drew).heap.size (W28.drew)) 12 rfl #[false, false, false, false, false, false, false, false, false, false, false, false] rfl (by kernel_rfl) (Below.refl _ _) ?_
          intro hS29
          have hBd31 := hB
          have kd31_b11 := k28
          refine h_pv [0] 11 rfl #[true, false, false, false, false, false, false, false, false, false, false, false] [(66, .nilIface)] (by kernel_rfl) (fun _ _ _ _ _ h => h) (by kernel_rfl) hS29 ?_
          refine h_loadv (b := b11) (off := 0) 2 10 rfl [.slice none 0 0, .int .i64 0] _ rfl (by kernel_rfl) (by kernel_rfl) (by kernel_rfl) (fun _ _ _ _ _ h => h) (by kernel_rfl) rfl (by kernel_rfl) Tryz.underlying33 rfl (by kernel_rfl) (fun V hV => (k28.below hV).whole) hS29 ?_
          refine h_one 1 9 rfl (by kernel_rfl) rfl (by kernel_rfl) (op_call (lb := #[]) 15 #[.nilIface] rfl (by kernel_rfl) (fun _ _ => by kernel_rfl) (by kernel_rfl) ((told_z 0 .nilIface _ (hg.below hB) rfl).mono ?_))
          rintro e W32 ⟨vt32, rfl, hb32, hq⟩
          refine ⟨_, rfl, ?_⟩
          replace hB := Bl.next hB hb32
          replace k28 := k28.below hb32
          replace hI := hI.below hb32
          replace hJ := hJ.below hb32
          replace hA := hA.below hb32
          replace hR := hR.below hb32
          have hS33 : Below (W28.drew).heap.size (W28.drew) (W32) := Bl.next hS29 hb32
          refine ⟨hS33, ?_⟩
          refine h_str (Below (W32).heap.size (W32)) (fun V hV => Bl.next hS33 hV) ?_
          have hS34 : Below (W32).heap.size (W32) (W32) := Below.refl _ _
          refine h_one 3 8 rfl (by kernel_rfl) rfl (by kernel_rfl) (op_call (lb := #[]) 14 #[vt32, .agg #[.slice none 0 0, .int .i64 0]] rfl (by kernel_rfl) (fun _ _ => by kernel_rfl) (by kernel_rfl) ((ref05_Same [] 0 vt32 _ _ hq ⟨_, rfl, ints_nil0 _⟩).mono ?_))
          rintro e W35 ⟨rfl, hb35⟩
          refine ⟨_, rfl, ?_⟩
          replace hB := Bl.next hB hb35
          replace k28 := k28.below hb35
          replace hI := hI.below hb35
          replace hJ := hJ.below hb35
          replace hA := hA.below hb35
          replace hR := hR.below hb35
          replace hq := hq.below hb35
          have hS36 : Below (W32).heap.size (W32) (W35) := Bl.next hS34 hb35
          refine ⟨hS36, ?_⟩
          refine h_str (Below (W35).heap.size (W35)) (fun V hV => Bl.next hS36 hV) ?_
          have hS37 : Below (W35).heap.size (W35) (W35) := Below.refl _ _
          refine h_pv [4, 5, 6, 7, 8, 9, 10, 11] 0 rfl #[true, true, true, true, true, true, true, true, true, true, true, true] [(70, .bool false), (71, .bool false), (72, .pointer (some ⟨ba, 0, none⟩)), (73, .bool false), (74, .pointer (some ⟨bc, 0, none⟩)), (75, .bool false), (76, .bool false), (77, .bool false)] (by kernel_rfl) (fun _ _ _ _ _ h => h) (by kernel_rfl) hS37 ?_
          refine h_done _ (by kernel_rfl) ?_
          refine wp_cond_false (by kernel_rfl) ?_
          refine wp_skip ?_
          refine wp_seq ?_
          refine wp_seq ?_
          refine wp_region_lit ?_
          refine g_pv 2 [(78, .pointer (some ⟨ba, 0, none⟩)), (79, .bool false)] (by kernel_rfl) ?_
          refine wpList_nil ?_
          refine wp_cond_false (by kernel_rfl) ?_
          refine wp_skip ?_
          refine wp_seq ?_
          refine wp_seq ?_
          refine wp_region_lit ?_
          refine g_pv 1 [(15, .int .i64 0)] (by kernel_rfl) ?_
          refine wpList_nil ?_
          refine wp_block ?_
          refine g_fr ⟨#[.slice a l.length c, .int .i64 f, .slice aZ Z.length cZ, .slice aT T.length cT, undef, undef, undef, undef, .bool false, .pointer (some ⟨bi, 0, none⟩), .pointer (some ⟨bj, 0, none⟩), .pointer (some ⟨ba, 0, none⟩), .nilIface, .pointer (some ⟨bc, 0, none⟩), .pointer (some ⟨b11, 0, none⟩), .int .i64 0, undef, undef, undef, undef, undef, .slice a l.length c, .int .i64 (↑l.length : Int), .bool false, .bool false, .slice aT T.length cT, .int .i64 (↑T.length : Int), .bool false, .bool false, .bool false, .slice aZ Z.length cZ, .int .i64 (↑Z.length : Int), .bool (decide ((↑Z.length : Int) > (100 : Int))), .bool (decide ((↑Z.length : Int) > (100 : Int))), undef, .slice a l.length c, .pointer (some ⟨bi, 0, none⟩), .slice a l.length c, .pointer (some ⟨bj, 0, none⟩), .tuple #[v1, v2], .pointer (some ⟨bi, 0, none⟩), .int .i64 f, .tuple #[v1, v2], v1, v2, .tuple #[v3, .agg #[.slice none 0 0, .int .i64 er3]], .pointer (some ⟨bj, 0, none⟩), .int .i64 f, .tuple #[v3, .agg #[.slice none 0 0, .int .i64 er3]], v3, .agg #[.slice none 0 0, .int .i64 er3], .slice aZ Z.length cZ, .int .i64 (↑Z.length : Int), .bool (decide ((↑Z.length : Int) > (0 : Int))), .tuple #[.pointer (some ⟨ba, 0, none⟩), .nilIface], .pointer (some ⟨bi, 0, none⟩), .slice aZ Z.length cZ, .tuple #[.pointer (some ⟨ba, 0, none⟩), .nilIface], .pointer (some ⟨ba, 0, none⟩), .nilIface, .tuple #[.pointer (some ⟨bc, 0, none⟩), .agg #[.slice none 0 0, .int .i64 0]], .pointer (some ⟨bj, 0, none⟩), .slice aZ Z.length cZ, .tuple #[.pointer (some ⟨bc, 0, none⟩), .agg #[.slice none 0 0, .int .i64 0]], .pointer (some ⟨bc, 0, none⟩), .agg #[.slice none 0 0, .int .i64 0], .nilIface, vt32, .agg #[.slice none 0 0, .int .i64 0], .bool true, .bool false, .bool false, .pointer (some ⟨ba, 0, none⟩), .bool false, .pointer (some ⟨bc, 0, none⟩), .bool false, .bool false, .bool false, .pointer (some ⟨ba, 0, none⟩), .bool false, undef, undef, undef, undef, undef, undef, undef, undef, undef, undef, undef, undef, undef, undef, undef, undef, undef, undef, undef, undef, undef, undef, undef, undef, undef, undef, undef, undef, undef, undef, undef, undef, undef, undef, undef, undef, undef, undef, undef, undef, undef, undef, undef, undef, undef, undef, undef, undef, undef, undef, undef, undef, undef, undef, undef, undef, undef, undef, undef, undef, undef, undef, undef, undef, undef, undef, undef, undef, undef, undef, undef, undef, undef, undef, undef, undef, undef, undef, undef, undef, undef, undef, undef, undef, undef, undef, undef, undef, undef, undef, undef, undef, undef, undef, undef, undef, undef, undef, undef, undef, undef, undef, undef, undef, undef, undef], []⟩ (by kernel_rfl) ?_
          refine wp_loop (fun act V => ∃ (i k : Nat) (lc : List UInt8) (fa : Option Addr) (m fc : Nat) (x38 : Nat → Value), act = ⟨#[.slice a l.length c, .int .i64 f, .slice aZ Z.length cZ, .slice aT T.length cT, undef, undef, undef, undef, (x38 0), .pointer (some ⟨bi, 0, none⟩), .pointer (some ⟨bj, 0, none⟩), .pointer (some ⟨ba, 0, none⟩), .nilIface, .pointer (some ⟨bc, 0, none⟩), .pointer (some ⟨b11, 0, none⟩), .int .i64 (↑i : Int), (x38 1), (x38 2), (x38 3), (x38 4), (x38 5), .slice a l.length c, .int .i64 (↑l.length : Int), .bool false, .bool false, .slice aT T.length cT, .int .i64 (↑T.length : Int), .bool false, .bool false, .bool false, .slice aZ Z.length cZ, .int .i64 (↑Z.length : Int), .bool (decide ((↑Z.length : Int) > (100 : Int))), .bool (decide ((↑Z.length : Int) > (100 : Int))), undef, .slice a l.length c, .pointer (some ⟨bi, 0, none⟩), .slice a l.length c, .pointer (some ⟨bj, 0, none⟩), .tuple #[v1, v2], .pointer (some ⟨bi, 0, none⟩), .int .i64 f, .tuple #[v1, v2], v1, v2, .tuple #[v3, .agg #[.slice none 0 0, .int .i64 er3]], .pointer (some ⟨bj, 0, none⟩), .int .i64 f, .tuple #[v3, .agg #[.slice none 0 0, .int .i64 er3]], v3, .agg #[.slice none 0 0, .int .i64 er3], .slice aZ Z.length cZ, .int .i64 (↑Z.length : Int), .bool (decide ((↑Z.length : Int) > (0 : Int))), .tuple #[.pointer (some ⟨ba, 0, none⟩), .nilIface], .pointer (some ⟨bi, 0, none⟩), .slice aZ Z.length cZ, .tuple #[.pointer (some ⟨ba, 0, none⟩), .nilIface], .pointer (some ⟨ba, 0, none⟩), .nilIface, .tuple #[.pointer (some ⟨bc, 0, none⟩), .agg #[.slice none 0 0, .int .i64 0]], .pointer (some ⟨bj, 0, none⟩), .slice aZ Z.length cZ, .tuple #[.pointer (some ⟨bc, 0, none⟩), .agg #[.slice none 0 0, .int .i64 0]], .pointer (some ⟨bc, 0, none⟩), .agg #[.slice none 0 0, .int .i64 0], .nilIface, vt32, .agg #[.slice none 0 0, .int .i64 0], .bool true, .bool false, .bool false, .pointer (some ⟨ba, 0, none⟩), .bool false, .pointer (some ⟨bc, 0, none⟩), .bool false, .bool false, .bool false, .pointer (some ⟨ba, 0, none⟩), .bool false, undef, (x38 6), (x38 7), (x38 8), (x38 9), (x38 10), (x38 11), (x38 12), (x38 13), (x38 14), (x38 15), (x38 16), (x38 17), (x38 18), (x38 19), (x38 20), (x38 21), (x38 22), (x38 23), (x38 24), (x38 25), (x38 26), (x38 27), (x38 28), (x38 29), (x38 30), (x38 31), (x38 32), (x38 33), (x38 34), (x38 35), (x38 36), (x38 37), (x38 38), (x38 39), (x38 40), (x38 41), (x38 42), (x38 43), (x38 44), (x38 45), (x38 46), (x38 47), (x38 48), (x38 49), (x38 50), (x38 51), (x38 52), (x38 53), (x38 54), (x38 55), (x38 56), (x38 57), (x38 58), (x38 59), (x38 60), (x38 61), (x38 62), (x38 63), (x38 64), (x38 65), (x38 66), (x38 67), (x38 68), (x38 69), (x38 70), (x38 71), (x38 72), (x38 73), (x38 74), (x38 75), (x38 76), (x38 77), (x38 78), (x38 79), (x38 80), (x38 81), (x38 82), (x38 83), (x38 84), (x38 85), (x38 86), (x38 87), (x38 88), (x38 89), (x38 90), undef, undef, undef, undef, undef, undef, undef, undef, undef, undef, undef, undef, undef, undef, undef, undef, undef, undef, undef, undef], []⟩ ∧ Below w.heap.size w V ∧ Blk V b11 ([.slice none 0 0, .int .i64 0]) 33 ∧ AlG w.heap.size ba bi pa Z.length ca k Z V ∧ RAl w.heap.size bc bj pg Z.length cg fa m fc k Z V ∧ ImgR w.heap.size bi pi ((l.length / 256) * 256) ci lc V ∧ RefI w.heap.size bj pj (l.length / 256) cj lc V ∧ i ≤ T.length) (fun act V => T.length - ((intOf (act.tmps.getD 15 undef))).toNat) ⟨0, 0, _, _, _, _, (pk [.bool false, undef, undef, undef, undef, undef, undef, undef, undef, undef, undef, undef, undef, undef, undef, undef, undef, undef, undef, undef, undef, undef, undef, undef, undef, undef, undef, undef, undef, undef, undef, undef, undef, undef, undef, undef, undef, undef, undef, undef, undef, undef, undef, undef, undef, undef, undef, undef, undef, undef, undef, undef, undef, undef, undef, undef, undef, undef, undef, undef, undef, undef, undef, undef, undef, undef, undef, undef, undef, undef, undef, undef, undef, undef, undef, undef, undef, undef, undef, undef, undef, undef, undef, undef, undef, undef, undef, undef, undef, undef, undef]), rfl, hB, k28, hA, hR, hI, hJ, Nat.zero_le _⟩ ?_
          rintro _ W38 ⟨i, k, lc, fa, m, fc, x38, rfl, hB, k38_b11, hA, hR, hI, hJ, hi⟩
          refine wp_seq ?_
          refine wp_seq ?_
          refine wp_region_lit ?_
          refine g_pv 4 [(81, .int .i64 (↑i : Int)), (82, .slice aT T.length cT), (83, .int .i64 (↑T.length : Int)), (84, .bool (decide ((↑i : Int) < (↑T.length : Int))))] (by kernel_rfl) ?_
          refine wpList_nil ?_
          refine wp_cond_split (t := decide ((↑i : Int) < (↑T.length : Int))) (by kernel_rfl) (fun hc39 => ?_) (fun hc39 => ?_)
          · have hc39 := of_decide_eq_true hc39
            refine wp_skip ?_
            refine wp_seq ?_
            refine wp_block ?_
            refine wp_seq ?_
            refine wp_region_lit ?_
            refine g_pv 2 [(87, .slice aT T.length cT), (88, .int .i64 (↑i : Int))] (by kernel_rfl) ?_
            refine g_op (by kernel_rfl) (op_val (run_indexA (size := 3) (k := i) (b := aT) (n := T.length) (c := cT) (i := (↑i : Int)) (ki := .i64) rfl (by kernel_rfl) (by kernel_rfl) rfl (by omega) (Sts.cell hT stC_len stD (k := i) (i := 0) (by omega) rfl).1 Tryz.underlying53 (by kernel_rfl) _) ?_)
            refine g_op (by kernel_rfl) (op_val (run_loadSt (k := i) stC_len stD _ rfl (by kernel_rfl) (hT.below hB) (by omega) (by decide) Tryz.underlying60 rfl (by kernel_rfl)) ?_)
            refine g_op (by kernel_rfl) (op_alloc [.bool false, .int .i64 0, .slice none 0 0] rfl (by kernel_rfl) ?_)
            intro b40 W40 n40
            have d40_b11 := n40.ne k38_b11
            have g40 := n40.ge hB
            replace hB := Bl.next hB n40.below
            replace k38_b11 := k38_b11.below n40.below
            replace hI := hI.below n40.below
            replace hJ := hJ.below n40.below
            replace hA := hA.below n40.below
            replace hR := hR.below n40.below
            have k40 := n40.blk
            refine g_op (by kernel_rfl) (op_storev (b := b40) (off := 0) [.bool ((T.getD i stD).1), .int .i64 ((T.getD i stD).2.1), .slice ((T.getD i stD).2.2.1) ((T.getD i stD).2.2.2.2.length) ((T.getD i stD).2.2.2.1)] rfl (by kernel_rfl) (by kernel_rfl) (by kernel_rfl) (by first | decide | simp [Value.oneCell']) k40 (by first | decide | simp) ?_)
            intro W41 u41 k41
            change Blk _ _ [.bool ((T.getD i stD).1), .int .i64 ((T.getD i stD).2.1), .slice ((T.getD i stD).2.2.1) ((T.getD i stD).2.2.2.2.length) ((T.getD i stD).2.2.2.1)] _ at k41
            replace hB := u41.below hB g40
            replace k38_b11 := u41.blk k38_b11 (Ne.symm (Ne.symm d40_b11))
            replace hI := hI.only (Only.of_upd (T := [60]) u41 k40 (by decide)) (by decide)
            replace hJ := hJ.only (Only.of_upd (T := [60]) u41 k40 (by decide)) (by decide)
            replace hA := hA.only (Only.of_upd (T := [60]) u41 k40 (by decide)) (by decide)
            replace hR := hR.only (Only.of_upd (T := [60]) u41 k40 (by decide)) (by decide)
            refine wpList_nil ?_
            refine wp_seq ?_
            refine wp_seq ?_
            refine wp_region_lit ?_
            refine g_pv 1 [(91, .pointer (some ⟨b40, 2, none⟩))] (by kernel_rfl) ?_
            refine g_op (by kernel_rfl) (op_load ⟨b40, 2, none⟩ (.slice ((T.getD i stD).2.2.1) ((T.getD i stD).2.2.2.2.length) ((T.getD i stD).2.2.2.1)) rfl (by kernel_rfl) (by kernel_rfl) (k41.cell (i := 2) rfl) ?_)
            refine g_pv 2 [(93, .int .i64 (↑((T.getD i stD).2.2.2.2.length) : Int)), (94, .bool (decide ((↑((T.getD i stD).2.2.2.2.length) : Int) > (600 : Int))))] (by kernel_rfl) ?_
            refine wpList_nil ?_
            refine wp_cond_split (t := decide ((↑((T.getD i stD).2.2.2.2.length) : Int) > (600 : Int))) (by kernel_rfl) (fun hc42 => ?_) (fun hc42 => ?_)
            · have hc42 := of_decide_eq_true hc42
              refine wp_seq ?_
              refine wp_region_lit ?_
              refine g_op (by kernel_rfl) (op_call (lb := #[]) 20 #[] rfl (by kernel_rfl) (fun _ _ => by kernel_rfl) (by kernel_rfl) ((lives16 _).mono ?_))
              rintro e W43 ⟨rfl, hb43⟩
              refine ⟨_, rfl, ?_⟩
              replace hB := Bl.next hB hb43
              replace k38_b11 := k38_b11.below hb43
              replace k41 := k41.below hb43
              replace hI := hI.below hb43
              replace hJ := hJ.below hb43
              replace hA := hA.below hb43
              replace hR := hR.below hb43
              refine g_pv 1 [(8, .bool true)] (by kernel_rfl) ?_
              refine wpList_nil ?_
              refine wp_ret (then_ret (inBlock_ret (then_ret (then_ret (inBlock_ret (then_ret ?_))))))
              exact g_ret (.bool true) (by kernel_rfl) (by kernel_rfl) ⟨rfl, hB⟩
            · have hc42 := of_decide_eq_false hc42
              refine wp_skip ?_
              refine wp_seq ?_
              refine wp_region_lit ?_
              refine g_pv 2 [(17, .int .i64 0), (18, .nilIface)] (by kernel_rfl) ?_
              refine wpList_nil ?_
              refine wp_seq ?_
              refine wp_region_lit ?_
              refine g_pv 1 [(96, .agg #[.slice none 0 0, .int .i64 0])] (by kernel_rfl) ?_
              refine g_op (by kernel_rfl) (op_alloc [.slice none 0 0, .int .i64 0] rfl (by kernel_rfl) ?_)
              intro b44 W44 n44
              have d44_b11 := n44.ne k38_b11
              have d44_b40 := n44.ne k41
              have g44 := n44.ge hB
              replace hB := Bl.next hB n44.below
              replace k38_b11 := k38_b11.below n44.below
              replace k41 := k41.below n44.below
              replace hI := hI.below n44.below
              replace hJ := hJ.below n44.below
              replace hA := hA.below n44.below
              replace hR := hR.below n44.below
              have k44 := n44.blk
              refine g_pv 1 [(19, .int .i64 0)] (by kernel_rfl) ?_
              refine g_op (by kernel_rfl) (op_storev (b := b44) (off := 0) [.slice none 0 0, .int .i64 0] rfl (by kernel_rfl) (by kernel_rfl) (by kernel_rfl) (by first | decide | simp [Value.oneCell']) k44 (by first | decide | simp) ?_)
              intro W45 u45 k45
              change Blk _ _ [.slice none 0 0, .int .i64 0] _ at k45
              replace hB := u45.below hB g44
              replace k38_b11 := u45.blk k38_b11 (Ne.symm (Ne.symm d44_b11))
              replace k41 := u45.blk k41 (Ne.symm (Ne.symm d44_b40))
              replace hI := hI.only (Only.of_upd (T := [33]) u45 k44 (by decide)) (by decide)
              replace hJ := hJ.only (Only.of_upd (T := [33]) u45 k44 (by decide)) (by decide)
              replace hA := hA.only (Only.of_upd (T := [33]) u45 k44 (by decide)) (by decide)
              replace hR := hR.only (Only.of_upd (T := [33]) u45 k44 (by decide)) (by decide)
              refine wpList_nil ?_
              refine wp_seq ?_
              refine wp_seq ?_
              refine wp_region_lit ?_
              refine g_pv 1 [(97, .pointer (some ⟨b40, 0, none⟩))] (by kernel_rfl) ?_
              refine g_op (by kernel_rfl) (op_load ⟨b40, 0, none⟩ (.bool ((T.getD i stD).1)) rfl (by kernel_rfl) (by kernel_rfl) (k41.cell (i := 0) rfl) ?_)
              refine wpList_nil ?_
              refine wp_cond_split (t := (T.getD i stD).1) (by kernel_rfl) (fun hc46 => ?_) (fun hc46 => ?_)
              · refine wp_seq ?_
                refine wp_region_lit ?_
                refine g_pv 1 [(100, .pointer (some ⟨ba, 0, none⟩))] (by kernel_rfl) ?_
                refine g_op (by kernel_rfl) (op_call (lb := #[]) 25 #[.pointer (some ⟨ba, 0, none⟩)] rfl (by kernel_rfl) (fun _ _ => by kernel_rfl) (by kernel_rfl) ((alloc_NextG w.heap.size ba bi pa Z.length ca k Z _ hA (fun hk => good_nn hgood hLN hk) hB.size).mono ?_))
                rintro e W47 ⟨ve, rfl, hb47, hO47, hA, hv⟩
                refine ⟨_, rfl, ?_⟩
                replace hB := hB.trans hb47
                replace k38_b11 := k38_b11.only hO47 (by decide)
                replace k41 := k41.only hO47 (by decide)
                replace k45 := k45.only hO47 (by decide)
                replace hI := hI.only hO47 (by decide)
                replace hJ := hJ.only hO47 (by decide)
                replace hR := hR.only hO47 (by decide)
                refine g_pv 5 [(99, .tuple #[.int .i64 (nxV k Z.length Z), ve]), (102, .int .i64 (nxV k Z.length Z)), (103, ve), (17, .int .i64 (nxV k Z.length Z)), (18, ve)] (by kernel_rfl) ?_
                refine wpList_nil ?_
                refine wp_region_lit ?_
                refine g_pv 1 [(105, .pointer (some ⟨bc, 0, none⟩))] (by kernel_rfl) ?_
                refine g_op (by kernel_rfl) (op_call (lb := #[]) 26 #[.pointer (some ⟨bc, 0, none⟩)] rfl (by kernel_rfl) (fun _ _ => by kernel_rfl) (by kernel_rfl) ((ref_Take w.heap.size bc bj pg Z.length cg fa m fc k Z _ hR hB.size).mono ?_))
                rintro e W48 ⟨fa2, m2, fc2, rfl, hb48, hO48, hR⟩
                refine ⟨_, rfl, ?_⟩
                replace hB := hB.trans hb48
                replace k38_b11 := k38_b11.only hO48 (by decide)
                replace k41 := k41.only hO48 (by decide)
                replace k45 := k45.only hO48 (by decide)
                replace hI := hI.only hO48 (by decide)
                replace hJ := hJ.only hO48 (by decide)
                replace hA := hA.only hO48 (by decide)
                replace hv := hv.only hO48 (by decide)
                have hRm := hR.hm
                refine g_pv 4 [(104, .tuple #[.int .i64 (nxV k Z.length Z), .agg #[.slice none 0 0, .int .i64 (nxE k Z.length)]]), (107, .int .i64 (nxV k Z.length Z)), (108, .agg #[.slice none 0 0, .int .i64 (nxE k Z.length)]), (19, .int .i64 (nxV k Z.length Z))] (by kernel_rfl) ?_
                refine g_op (by kernel_rfl) (op_storev (b := b44) (off := 0) [.slice none 0 0, .int .i64 (nxE k Z.length)] rfl (by kernel_rfl) (by kernel_rfl) (by kernel_rfl) (by first | decide | simp [Value.oneCell']) k45 (by first | decide | simp) ?_)
                intro W49 u49 k49
                change Blk _ _ [.slice none 0 0, .int .i64 (nxE k Z.length)] _ at k49
                replace hB := u49.below hB g44
                replace k38_b11 := u49.blk k38_b11 (Ne.symm (Ne.symm d44_b11))
                replace k41 := u49.blk k41 (Ne.symm (Ne.symm d44_b40))
                replace hI := hI.only (Only.of_upd (T := [33]) u49 k45 (by decide)) (by decide)
                replace hJ := hJ.only (Only.of_upd (T := [33]) u49 k45 (by decide)) (by decide)
                replace hA := hA.only (Only.of_upd (T := [33]) u49 k45 (by decide)) (by decide)
                replace hR := hR.only (Only.of_upd (T := [33]) u49 k45 (by decide)) (by decide)
                replace hv := hv.only (Only.of_upd (T := [33]) u49 k45 (by decide)) (by decide)
                refine wpList_nil ?_
                refine wp_seq ?_
                replace hB := Bl.next hB (below_drew W49)
                replace k38_b11 := k38_b11.below (below_drew W49)
                replace k41 := k41.below (below_drew W49)
                replace k49 := k49.below (below_drew W49)
                replace hI := hI.below (below_drew W49)
                replace hJ := hJ.below (below_drew W49)
                replace hA := hA.below (below_drew W49)
                replace hR := hR.below (below_drew W49)
                replace hv := hv.below (below_drew W49)
                refine h_reg (Below (W49.drew).heap.size (W49.drew)) 39 rfl #[false, false, false, false, false, false, false, false, false, false, false, false, false, false, false, false, false, false, false, false, false, false, false, false, false, false, false, false, false, false, false, false, false, false, false, false, false, false, false] rfl (by kernel_rfl) (Below.refl _ _) ?_
                intro hS50
                have hBd52 := hB
                have kd52_b11 := k38_b11
                have kd52_b40 := k41
                have kd52_b44 := k49
                refine h_pv [0, 1, 2, 3] 35 rfl #[true, true, true, true, false, false, false, false, false, false, false, false, false, false, false, false, false, false, false, false, false, false, false, false, false, false, false, false, false, false, false, false, false, false, false, false, false, false, false] [(127, .int .i64 (nxV k Z.length Z)), (128, .int .i64 (nxV k Z.length Z)), (129, .bool ((nxV k Z.length Z) != (nxV k Z.length Z))), (130, .bool ((nxV k Z.length Z) != (nxV k Z.length Z)))] (by kernel_rfl) (fun _ _ _ _ _ h => h) (by kernel_rfl) hS50 ?_
                have hc53 : (((nxV k Z.length Z) != (nxV k Z.length Z)) : Bool) = false := by simp
                refine h_b [129, 130] _ _ hc53 (by kernel_rfl) ?_
                refine h_pv [4] 34 rfl #[true, true, true, true, true, false, false, false, false, false, false, false, false, false, false, false, false, false, false, false, false, false, false, false, false, false, false, false, false, false, false, false, false, false, false, false, false, false, false] [(131, ve)] (by kernel_rfl) (fun _ _ _ _ _ h => h) (by kernel_rfl) hS50 ?_
                refine h_loadv (b := b44) (off := 0) 6 33 rfl [.slice none 0 0, .int .i64 (nxE k Z.length)] _ rfl (by kernel_rfl) (by kernel_rfl) (by kernel_rfl) (fun _ _ _ _ _ h => h) (by kernel_rfl) rfl (by kernel_rfl) Tryz.underlying33 rfl (by kernel_rfl) (fun V hV => (k49.below hV).whole) hS50 ?_
                refine h_one 5 32 rfl (by kernel_rfl) rfl (by kernel_rfl) (op_call (lb := #[]) 15 #[ve] rfl (by kernel_rfl) (fun _ _ => by kernel_rfl) (by kernel_rfl) ((told_z (nxE k Z.length) _ _ (hg.below hB) hv).mono ?_))
                rintro e W54 ⟨vt54, rfl, hb54, hq⟩
                refine ⟨_, rfl, ?_⟩
                replace hB := Bl.next hB hb54
                replace k38_b11 := k38_b11.below hb54
                replace k41 := k41.below hb54
                replace k49 := k49.below hb54
                replace hI := hI.below hb54
                replace hJ := hJ.below hb54
                replace hA := hA.below hb54
                replace hR := hR.below hb54
                replace hv := hv.below hb54
                have hS55 : Below (W49.drew).heap.size (W49.drew) (W54) := Bl.next hS50 hb54
                refine ⟨hS55, ?_⟩
                refine h_str (Below (W54).heap.size (W54)) (fun V hV => Bl.next hS55 hV) ?_
                have hS56 : Below (W54).heap.size (W54) (W54) := Below.refl _ _
                refine h_one 7 31 rfl (by kernel_rfl) rfl (by kernel_rfl) (op_call (lb := #[]) 14 #[vt54, .agg #[.slice none 0 0, .int .i64 (nxE k Z.length)]] rfl (by kernel_rfl) (fun _ _ => by kernel_rfl) (by kernel_rfl) ((ref05_Same [] (nxE k Z.length) vt54 _ _ hq ⟨_, rfl, ints_nil0 _⟩).mono ?_))
                rintro e W57 ⟨rfl, hb57⟩
                refine ⟨_, rfl, ?_⟩
                replace hB := Bl.next hB hb57
                replace k38_b11 := k38_b11.below hb57
                replace k41 := k41.below hb57
                replace k49 := k49.below hb57
                replace hI := hI.below hb57
                replace hJ := hJ.below hb57
                replace hA := hA.below hb57
                replace hR := hR.below hb57
                replace hv := hv.below hb57
                replace hq := hq.below hb57
                have hS58 : Below (W54).heap.size (W54) (W57) := Bl.next hS56 hb57
                refine ⟨hS58, ?_⟩
                refine h_str (Below (W57).heap.size (W57)) (fun V hV => Bl.next hS58 hV) ?_
                have hS59 : Below (W57).heap.size (W57) (W57) := Below.refl _ _
                refine h_pv [8, 9, 10, 11, 13, 14, 15] 24 rfl #[true, true, true, true, true, true, true, true, true, true, true, true, false, true, true, true, false, false, false, false, false, false, false, false, false, false, false, false, false, false, false, false, false, false, false, false, false, false, false] [(135, .bool false), (136, .bool false), (137, .bool false), (138, .pointer (some ⟨ba, 0, none⟩)), (140, .pointer (some ⟨bc, 0, none⟩)), (141, .pointer (some ⟨bc, 0, none⟩)), (142, .pointer (some ⟨bc, 1, none⟩))] (by kernel_rfl) (fun _ _ _ _ _ h => h) (by kernel_rfl) hS59 ?_
                refine h_load 16 23 rfl ⟨bc, 1, none⟩ (.slice fa2 m2 fc2) rfl (by kernel_rfl) (by kernel_rfl) (by kernel_rfl) (fun _ _ _ _ _ h => h) (by kernel_rfl) rfl (by kernel_rfl) (by kernel_rfl) (fun V hV => ((hR.below hV).blk.cell (i := 1) rfl)) hS59 ?_
                refine h_pv [17] 22 rfl #[true, true, true, true, true, true, true, true, true, true, true, true, false, true, true, true, true, true, false, false, false, false, false, false, false, false, false, false, false, false, false, false, false, false, false, false, false, false, false] [(144, .int .i64 (↑m2 : Int))] (by kernel_rfl) (fun _ _ _ _ _ h => h) (by kernel_rfl) hS59 ?_
                refine h_one 12 21 rfl (by kernel_rfl) rfl (by kernel_rfl) (op_call (lb := #[]) 29 #[.pointer (some ⟨ba, 0, none⟩)] rfl (by kernel_rfl) (fun _ _ => by kernel_rfl) (by kernel_rfl) ((alloc_Left ba bi pa Z.length ca (nxK k Z.length) _ hA.blk hA.hk).mono ?_))
                rintro e W60 ⟨rfl, hb60⟩
                refine ⟨_, rfl, ?_⟩
                replace hB := Bl.next hB hb60
                replace k38_b11 := k38_b11.below hb60
                replace k41 := k41.below hb60
                replace k49 := k49.below hb60
                replace hI := hI.below hb60
                replace hJ := hJ.below hb60
                replace hA := hA.below hb60
                replace hR := hR.below hb60
                replace hv := hv.below hb60
                have hS61 : Below (W57).heap.size (W57) (W60) := Bl.next hS59 hb60
                refine ⟨hS61, ?_⟩
                refine h_str (Below (W60).heap.size (W60)) (fun V hV => Bl.next hS61 hV) ?_
                have hS62 : Below (W60).heap.size (W60) (W60) := Below.refl _ _
                refine h_pv [18, 19, 20] 18 rfl #[true, true, true, true, true, true, true, true, true, true, true, true, true, true, true, true, true, true, true, true, true, false, false, false, false, false, false, false, false, false, false, false, false, false, false, false, false, false, false] [(145, .bool ((↑(Z.length - (nxK k Z.length)) : Int) != (↑m2 : Int))), (146, .bool ((↑(Z.length - (nxK k Z.length)) : Int) != (↑m2 : Int))), (147, .bool ((↑(Z.length - (nxK k Z.length)) : Int) != (↑m2 : Int)))] (by kernel_rfl) (fun _ _ _ _ _ h => h) (by kernel_rfl) hS62 ?_
                have hc63 : (((↑(Z.length - (nxK k Z.length)) : Int) != (↑m2 : Int)) : Bool) = false := by rw [bne_eq_false_iff_eq]; omega
                refine h_b [145, 146, 147] _ _ hc63 (by kernel_rfl) ?_
                refine h_pv [21, 23, 24, 25] 14 rfl #[true, true, true, true, true, true, true, true, true, true, true, true, true, true, true, true, true, true, true, true, true, true, false, true, true, true, false, false, false, false, false, false, false, false, false, false, false, false, false] [(148, .pointer (some ⟨ba, 0, none⟩)), (150, .pointer (some ⟨bc, 0, none⟩)), (151, .pointer (some ⟨bc, 0, none⟩)), (152, .pointer (some ⟨bc, 2, none⟩))] (by kernel_rfl) (fun _ _ _ _ _ h => h) (by kernel_rfl) hS62 ?_
                refine h_load 26 13 rfl ⟨bc, 2, none⟩ (.int .i64 (↑(nxK k Z.length) : Int)) rfl (by kernel_rfl) (by kernel_rfl) (by kernel_rfl) (fun _ _ _ _ _ h => h) (by kernel_rfl) rfl (by kernel_rfl) (by kernel_rfl) (fun V hV => ((hR.below hV).blk.cell (i := 2) rfl)) hS62 ?_
                refine h_one 22 12 rfl (by kernel_rfl) rfl (by kernel_rfl) (op_call (lb := #[]) 16 #[.pointer (some ⟨ba, 0, none⟩)] rfl (by kernel_rfl) (fun _ _ => by kernel_rfl) (by kernel_rfl) ((alloc_Used ba bi _ (nxK k Z.length) _ hA.blk).mono ?_))
                rintro e W64 ⟨rfl, hb64⟩
                refine ⟨_, rfl, ?_⟩
                replace hB := Bl.next hB hb64
                replace k38_b11 := k38_b11.below hb64
                replace k41 := k41.below hb64
                replace k49 := k49.below hb64
                replace hI := hI.below hb64
                replace hJ := hJ.below hb64
                replace hA := hA.below hb64
                replace hR := hR.below hb64
                replace hv := hv.below hb64
                have hS65 : Below (W60).heap.size (W60) (W64) := Bl.next hS62 hb64
                refine ⟨hS65, ?_⟩
                refine h_str (Below (W64).heap.size (W64)) (fun V hV => Bl.next hS65 hV) ?_
                have hS66 : Below (W64).heap.size (W64) (W64) := Below.refl _ _
                refine h_pv [27, 28, 29] 9 rfl #[true, true, true, true, true, true, true, true, true, true, true, true, true, true, true, true, true, true, true, true, true, true, true, true, true, true, true, true, true, true, false, false, false, false, false, false, false, false, false] [(154, .bool ((↑(nxK k Z.length) : Int) != (↑(nxK k Z.length) : Int))), (155, .bool ((↑(nxK k Z.length) : Int) != (↑(nxK k Z.length) : Int))), (156, .bool ((↑(nxK k Z.length) : Int) != (↑(nxK k Z.length) : Int)))] (by kernel_rfl) (fun _ _ _ _ _ h => h) (by kernel_rfl) hS66 ?_
                have hc67 : (((↑(nxK k Z.length) : Int) != (↑(nxK k Z.length) : Int)) : Bool) = false := by simp
                refine h_b [154, 155, 156] _ _ hc67 (by kernel_rfl) ?_
                refine h_pv [30, 31, 33, 34] 5 rfl #[true, true, true, true, true, true, true, true, true, true, true, true, true, true, true, true, true, true, true, true, true, true, true, true, true, true, true, true, true, true, true, true, false, true, true, false, false, false, false] [(157, .pointer (some ⟨ba, 0, none⟩)), (158, .int .i64 (↑i : Int)), (160, .pointer (some ⟨bc, 0, none⟩)), (161, .int .i64 (↑i : Int))] (by kernel_rfl) (fun _ _ _ _ _ h => h) (by kernel_rfl) hS66 ?_
                have hs68 : w.heap.size ≤ (W64).heap.size := hB.size
                refine h_one 32 4 rfl (by kernel_rfl) rfl (by kernel_rfl) (op_call (lb := #[]) 31 #[.pointer (some ⟨ba, 0, none⟩), .int .i64 (↑i : Int)] rfl (by kernel_rfl) (fun _ _ => by kernel_rfl) (by kernel_rfl) ((alloc_Ahead w.heap.size ba bi pa Z.length ca (nxK k Z.length) i Z _ hA (by omega)).mono ?_))
                rintro e W68 ⟨_, rfl, hb68, q6, c6, rfl, h6⟩
                refine ⟨_, rfl, ?_⟩
                replace hB := Bl.next hB hb68
                replace k38_b11 := k38_b11.below hb68
                replace k41 := k41.below hb68
                replace k49 := k49.below hb68
                replace hI := hI.below hb68
                replace hJ := hJ.below hb68
                replace hA := hA.below hb68
                replace hR := hR.below hb68
                replace hv := hv.below hb68
                replace h6 := own_mono h6 hs68
                have hS69 : Below (W64).heap.size (W64) (W68) := Bl.next hS66 hb68
                refine ⟨hS69, ?_⟩
                refine h_str (Below (W68).heap.size (W68)) (fun V hV => Bl.next hS69 hV) ?_
                have hS70 : Below (W68).heap.size (W68) (W68) := Below.refl _ _
                have hs71 : w.heap.size ≤ (W68).heap.size := hB.size
                refine h_one 35 3 rfl (by kernel_rfl) rfl (by kernel_rfl) (op_call (lb := #[]) 32 #[.pointer (some ⟨bc, 0, none⟩), .int .i64 (↑i : Int)] rfl (by kernel_rfl) (fun _ _ => by kernel_rfl) (by kernel_rfl) ((ref_Ahead w.heap.size bc bj pg Z.length cg fa2 m2 fc2 (nxK k Z.length) i Z _ hR (by omega)).mono ?_))
                rintro e W71 ⟨_, rfl, hb71, q7, c7, rfl, h7⟩
                refine ⟨_, rfl, ?_⟩
                replace hB := Bl.next hB hb71
                replace k38_b11 := k38_b11.below hb71
                replace k41 := k41.below hb71
                replace k49 := k49.below hb71
                replace hI := hI.below hb71
                replace hJ := hJ.below hb71
                replace hA := hA.below hb71
                replace hR := hR.below hb71
                replace hv := hv.below hb71
                replace h6 := own_below h6 hb71
                replace h7 := own_mono h7 hs71
                have hS72 : Below (W68).heap.size (W68) (W71) := Bl.next hS70 hb71
                refine ⟨hS72, ?_⟩
                refine h_str (Below (W71).heap.size (W71)) (fun V hV => Bl.next hS72 hV) ?_
                have hS73 : Below (W71).heap.size (W71) (W71) := Below.refl _ _
                refine h_one 36 2 rfl (by kernel_rfl) rfl (by kernel_rfl) (op_call (lb := #[]) 30 #[.slice q6 (min i (Z.length - (nxK k Z.length))) c6, .slice q7 (min i (Z.length - (nxK k Z.length))) c7] rfl (by kernel_rfl) (fun _ _ => by kernel_rfl) (by kernel_rfl) ((ref01_SameN q6 q7 (min i (Z.length - (nxK k Z.length))) c6 c7 ((Z.drop (nxK k Z.length)).take i) _ (by rw [List.length_take, List.length_drop, hLN]) (own_sl h6) (own_sl h7) (by omega)).mono ?_))
                rintro e W74 ⟨rfl, hb74⟩
                refine ⟨_, rfl, ?_⟩
                replace hB := Bl.next hB hb74
                replace k38_b11 := k38_b11.below hb74
                replace k41 := k41.below hb74
                replace k49 := k49.below hb74
                replace hI := hI.below hb74
                replace hJ := hJ.below hb74
                replace hA := hA.below hb74
                replace hR := hR.below hb74
                replace hv := hv.below hb74
                replace h6 := own_below h6 hb74
                replace h7 := own_below h7 hb74
                have hS75 : Below (W71).heap.size (W71) (W74) := Bl.next hS73 hb74
                refine ⟨hS75, ?_⟩
                refine h_str (Below (W74).heap.size (W74)) (fun V hV => Bl.next hS75 hV) ?_
                have hS76 : Below (W74).heap.size (W74) (W74) := Below.refl _ _
                refine h_pv [37, 38] 0 rfl #[true, true, true, true, true, true, true, true, true, true, true, true, true, true, true, true, true, true, true, true, true, true, true, true, true, true, true, true, true, true, true, true, true, true, true, true, true, true, true] [(164, .bool false), (165, .bool false)] (by kernel_rfl) (fun _ _ _ _ _ h => h) (by kernel_rfl) hS76 ?_
                refine h_done _ (by kernel_rfl) ?_
                refine wp_cond_false (by kernel_rfl) ?_
                refine wp_skip ?_
                refine wp_region_lit ?_
                refine g_pv 1 [(85, .int .i64 (↑i : Int))] (by kernel_rfl) ?_
                refine g_op (by kernel_rfl) (op_val (run_wrap .i64 ((↑i : Int) + 1) (↑(i + 1) : Int) (by kernel_rfl) ((show IntKind.i64.wrap ((↑i : Int) + 1) = ((↑i : Int) + 1) from by first | exact IntWalk.i64_in _ (by omega) | (simp only [IntKind.wrap]; omega)).trans (by omega)) _) ?_)
                refine g_pv 1 [(15, .int .i64 (↑(i + 1) : Int))] (by kernel_rfl) ?_
                refine wpList_nil ?_
                refine g_nfr ⟨#[.slice a l.length c, .int .i64 f, .slice aZ Z.length cZ, .slice aT T.length cT, undef, undef, undef, undef, (x38 0), .pointer (some ⟨bi, 0, none⟩), .pointer (some ⟨bj, 0, none⟩), .pointer (some ⟨ba, 0, none⟩), .nilIface, .pointer (some ⟨bc, 0, none⟩), .pointer (some ⟨b11, 0, none⟩), .int .i64 (↑(i + 1) : Int), .pointer (some ⟨b40, 0, none⟩), .int .i64 (nxV k Z.length Z), ve, .int .i64 (nxV k Z.length Z), .pointer (some ⟨b44, 0, none⟩), .slice a l.length c, .int .i64 (↑l.length : Int), .bool false, .bool false, .slice aT T.length cT, .int .i64 (↑T.length : Int), .bool false, .bool false, .bool false, .slice aZ Z.length cZ, .int .i64 (↑Z.length : Int), .bool (decide ((↑Z.length : Int) > (100 : Int))), .bool (decide ((↑Z.length : Int) > (100 : Int))), undef, .slice a l.length c, .pointer (some ⟨bi, 0, none⟩), .slice a l.length c, .pointer (some ⟨bj, 0, none⟩), .tuple #[v1, v2], .pointer (some ⟨bi, 0, none⟩), .int .i64 f, .tuple #[v1, v2], v1, v2, .tuple #[v3, .agg #[.slice none 0 0, .int .i64 er3]], .pointer (some ⟨bj, 0, none⟩), .int .i64 f, .tuple #[v3, .agg #[.slice none 0 0, .int .i64 er3]], v3, .agg #[.slice none 0 0, .int .i64 er3], .slice aZ Z.length cZ, .int .i64 (↑Z.length : Int), .bool (decide ((↑Z.length : Int) > (0 : Int))), .tuple #[.pointer (some ⟨ba, 0, none⟩), .nilIface], .pointer (some ⟨bi, 0, none⟩), .slice aZ Z.length cZ, .tuple #[.pointer (some ⟨ba, 0, none⟩), .nilIface], .pointer (some ⟨ba, 0, none⟩), .nilIface, .tuple #[.pointer (some ⟨bc, 0, none⟩), .agg #[.slice none 0 0, .int .i64 0]], .pointer (some ⟨bj, 0, none⟩), .slice aZ Z.length cZ, .tuple #[.pointer (some ⟨bc, 0, none⟩), .agg #[.slice none 0 0, .int .i64 0]], .pointer (some ⟨bc, 0, none⟩), .agg #[.slice none 0 0, .int .i64 0], .nilIface, vt32, .agg #[.slice none 0 0, .int .i64 0], .bool true, .bool false, .bool false, .pointer (some ⟨ba, 0, none⟩), .bool false, .pointer (some ⟨bc, 0, none⟩), .bool false, .bool false, .bool false, .pointer (some ⟨ba, 0, none⟩), .bool false, undef, .int .i64 (↑i : Int), .slice aT T.length cT, .int .i64 (↑T.length : Int), .bool (decide ((↑i : Int) < (↑T.length : Int))), .int .i64 (↑i : Int), .int .i64 (↑(i + 1) : Int), .slice aT T.length cT, .int .i64 (↑i : Int), .pointer (some (elemAddr aT (i * 3))), .agg #[.bool ((T.getD i stD).1), .int .i64 ((T.getD i stD).2.1), .slice ((T.getD i stD).2.2.1) ((T.getD i stD).2.2.2.2.length) ((T.getD i stD).2.2.2.1)], .pointer (some ⟨b40, 2, none⟩), .slice ((T.getD i stD).2.2.1) ((T.getD i stD).2.2.2.2.length) ((T.getD i stD).2.2.2.1), .int .i64 (↑((T.getD i stD).2.2.2.2.length) : Int), .bool (decide ((↑((T.getD i stD).2.2.2.2.length) : Int) > (600 : Int))), (x38 20), .agg #[.slice none 0 0, .int .i64 0], .pointer (some ⟨b40, 0, none⟩), .bool ((T.getD i stD).1), .tuple #[.int .i64 (nxV k Z.length Z), ve], .pointer (some ⟨ba, 0, none⟩), .tuple #[.int .i64 (nxV k Z.length Z), ve], .int .i64 (nxV k Z.length Z), ve, .tuple #[.int .i64 (nxV k Z.length Z), .agg #[.slice none 0 0, .int .i64 (nxE k Z.length)]], .pointer (some ⟨bc, 0, none⟩), .tuple #[.int .i64 (nxV k Z.length Z), .agg #[.slice none 0 0, .int .i64 (nxE k Z.length)]], .int .i64 (nxV k Z.length Z), .agg #[.slice none 0 0, .int .i64 (nxE k Z.length)], (x38 34), (x38 35), (x38 36), (x38 37), (x38 38), (x38 39), (x38 40), (x38 41), (x38 42), (x38 43), (x38 44), (x38 45), (x38 46), (x38 47), (x38 48), (x38 49), (x38 50), (x38 51), .int .i64 (nxV k Z.length Z), .int .i64 (nxV k Z.length Z), .bool false, .bool false, ve, vt54, .agg #[.slice none 0 0, .int .i64 (nxE k Z.length)], .bool true, .bool false, .bool false, .bool false, .pointer (some ⟨ba, 0, none⟩), .int .i64 (↑(Z.length - (nxK k Z.length)) : Int), .pointer (some ⟨bc, 0, none⟩), .pointer (some ⟨bc, 0, none⟩), .pointer (some ⟨bc, 1, none⟩), .slice fa2 m2 fc2, .int .i64 (↑m2 : Int), .bool false, .bool false, .bool false, .pointer (some ⟨ba, 0, none⟩), .int .i64 (↑(nxK k Z.length) : Int), .pointer (some ⟨bc, 0, none⟩), .pointer (some ⟨bc, 0, none⟩), .pointer (some ⟨bc, 2, none⟩), .int .i64 (↑(nxK k Z.length) : Int), .bool false, .bool false, .bool false, .pointer (some ⟨ba, 0, none⟩), .int .i64 (↑i : Int), .slice q6 (min i (Z.length - (nxK k Z.length))) c6, .pointer (some ⟨bc, 0, none⟩), .int .i64 (↑i : Int), .slice q7 (min i (Z.length - (nxK k Z.length))) c7, .bool true, .bool false, .bool false, undef, undef, undef, undef, undef, undef, undef, undef, undef, undef, undef, undef, undef, undef, undef, undef, undef, undef, undef, undef], []⟩ (by kernel_rfl) ?_
                refine ⟨⟨i + 1, (nxK k Z.length), lc, fa2, m2, fc2, (pk [(x38 0), .pointer (some ⟨b40, 0, none⟩), .int .i64 (nxV k Z.length Z), ve, .int .i64 (nxV k Z.length Z), .pointer (some ⟨b44, 0, none⟩), .int .i64 (↑i : Int), .slice aT T.length cT, .int .i64 (↑T.length : Int), .bool (decide ((↑i : Int) < (↑T.length : Int))), .int .i64 (↑i : Int), .int .i64 (↑(i + 1) : Int), .slice aT T.length cT, .int .i64 (↑i : Int), .pointer (some (elemAddr aT (i * 3))), .agg #[.bool ((T.getD i stD).1), .int .i64 ((T.getD i stD).2.1), .slice ((T.getD i stD).2.2.1) ((T.getD i stD).2.2.2.2.length) ((T.getD i stD).2.2.2.1)], .pointer (some ⟨b40, 2, none⟩), .slice ((T.getD i stD).2.2.1) ((T.getD i stD).2.2.2.2.length) ((T.getD i stD).2.2.2.1), .int .i64 (↑((T.getD i stD).2.2.2.2.length) : Int), .bool (decide ((↑((T.getD i stD).2.2.2.2.length) : Int) > (600 : Int))), (x38 20), .agg #[.slice none 0 0, .int .i64 0], .pointer (some ⟨b40, 0, none⟩), .bool ((T.getD i stD).1), .tuple #[.int .i64 (nxV k Z.length Z), ve], .pointer (some ⟨ba, 0, none⟩), .tuple #[.int .i64 (nxV k Z.length Z), ve], .int .i64 (nxV k Z.length Z), ve, .tuple #[.int .i64 (nxV k Z.length Z), .agg #[.slice none 0 0, .int .i64 (nxE k Z.length)]], .pointer (some ⟨bc, 0, none⟩), .tuple #[.int .i64 (nxV k Z.length Z), .agg #[.slice none 0 0, .int .i64 (nxE k Z.length)]], .int .i64 (nxV k Z.length Z), .agg #[.slice none 0 0, .int .i64 (nxE k Z.length)], (x38 34), (x38 35), (x38 36), (x38 37), (x38 38), (x38 39), (x38 40), (x38 41), (x38 42), (x38 43), (x38 44), (x38 45), (x38 46), (x38 47), (x38 48), (x38 49), (x38 50), (x38 51), .int .i64 (nxV k Z.length Z), .int .i64 (nxV k Z.length Z), .bool false, .bool false, ve, vt54, .agg #[.slice none 0 0, .int .i64 (nxE k Z.length)], .bool true, .bool false, .bool false, .bool false, .pointer (some ⟨ba, 0, none⟩), .int .i64 (↑(Z.length - (nxK k Z.length)) : Int), .pointer (some ⟨bc, 0, none⟩), .pointer (some ⟨bc, 0, none⟩), .pointer (some ⟨bc, 1, none⟩), .slice fa2 m2 fc2, .int .i64 (↑m2 : Int), .bool false, .bool false, .bool false, .pointer (some ⟨ba, 0, none⟩), .int .i64 (↑(nxK k Z.length) : Int), .pointer (some ⟨bc, 0, none⟩), .pointer (some ⟨bc, 0, none⟩), .pointer (some ⟨bc, 2, none⟩), .int .i64 (↑(nxK k Z.length) : Int), .bool false, .bool false, .bool false, .pointer (some ⟨ba, 0, none⟩), .int .i64 (↑i : Int), .slice q6 (min i (Z.length - (nxK k Z.length))) c6, .pointer (some ⟨bc, 0, none⟩), .int .i64 (↑i : Int), .slice q7 (min i (Z.length - (nxK k Z.length))) c7, .bool true, .bool false, .bool false]), (by kernel_rfl), hB, k38_b11, hA, hR, hI, hJ, by omega⟩, ?_⟩
                show T.length - ((↑(i + 1) : Int)).toNat < T.length - ((↑i : Int)).toNat
                omega
              · refine wp_seq ?_
                refine wp_region_lit ?_
                refine g_pv 2 [(110, .pointer (some ⟨ba, 0, none⟩)), (111, .pointer (some ⟨b40, 1, none⟩))] (by kernel_rfl) ?_
                refine g_op (by kernel_rfl) (op_load ⟨b40, 1, none⟩ (.int .i64 ((T.getD i stD).2.1)) rfl (by kernel_rfl) (by kernel_rfl) (k41.cell (i := 1) rfl) ?_)
                refine g_pv 1 [(113, .pointer (some ⟨b40, 2, none⟩))] (by kernel_rfl) ?_
                refine g_op (by kernel_rfl) (op_load ⟨b40, 2, none⟩ (.slice ((T.getD i stD).2.2.1) ((T.getD i stD).2.2.2.2.length) ((T.getD i stD).2.2.2.1)) rfl (by kernel_rfl) (by kernel_rfl) (k41.cell (i := 2) rfl) ?_)
                refine g_op (by kernel_rfl) (op_call (lb := #[]) 27 #[.pointer (some ⟨ba, 0, none⟩), .int .i64 ((T.getD i stD).2.1), .slice ((T.getD i stD).2.2.1) ((T.getD i stD).2.2.2.2.length) ((T.getD i stD).2.2.2.1)] rfl (by kernel_rfl) (fun _ _ => by kernel_rfl) (by kernel_rfl) ((alloc_LayG w.heap.size ba bi pa Z.length ca k Z pi (l.length / 256) ((l.length / 256) * 256) ci lc (T.getD i stD).2.1 (T.getD i stD).2.2.1 (T.getD i stD).2.2.2.1 (T.getD i stD).2.2.2.2 _ hA (fun hk => good_nn hgood hLN hk) rfl hI (fun W hb => (hTb i (by omega)).below (hB.trans hb)) hB.size).mono ?_))
                rintro e W77 ⟨ve, rfl, hb77, hO77, hA, hI, hv⟩
                refine ⟨_, rfl, ?_⟩
                replace hB := hB.trans hb77
                replace k38_b11 := k38_b11.only hO77 (by decide)
                replace k41 := k41.only hO77 (by decide)
                replace k45 := k45.only hO77 (by decide)
                replace hJ := hJ.only hO77 (by decide)
                replace hR := hR.only hO77 (by decide)
                refine g_pv 5 [(109, .tuple #[.int .i64 (lyV k Z.length (l.length / 256) Z (T.getD i stD).2.1 (T.getD i stD).2.2.2.2), ve]), (116, .int .i64 (lyV k Z.length (l.length / 256) Z (T.getD i stD).2.1 (T.getD i stD).2.2.2.2)), (117, ve), (17, .int .i64 (lyV k Z.length (l.length / 256) Z (T.getD i stD).2.1 (T.getD i stD).2.2.2.2)), (18, ve)] (by kernel_rfl) ?_
                refine wpList_nil ?_
                refine wp_region_lit ?_
                refine g_pv 2 [(119, .pointer (some ⟨bc, 0, none⟩)), (120, .pointer (some ⟨b40, 1, none⟩))] (by kernel_rfl) ?_
                refine g_op (by kernel_rfl) (op_load ⟨b40, 1, none⟩ (.int .i64 ((T.getD i stD).2.1)) rfl (by kernel_rfl) (by kernel_rfl) (k41.cell (i := 1) rfl) ?_)
                refine g_pv 1 [(122, .pointer (some ⟨b40, 2, none⟩))] (by kernel_rfl) ?_
                refine g_op (by kernel_rfl) (op_load ⟨b40, 2, none⟩ (.slice ((T.getD i stD).2.2.1) ((T.getD i stD).2.2.2.2.length) ((T.getD i stD).2.2.2.1)) rfl (by kernel_rfl) (by kernel_rfl) (k41.cell (i := 2) rfl) ?_)
                refine g_op (by kernel_rfl) (op_call (lb := #[]) 28 #[.pointer (some ⟨bc, 0, none⟩), .int .i64 ((T.getD i stD).2.1), .slice ((T.getD i stD).2.2.1) ((T.getD i stD).2.2.2.2.length) ((T.getD i stD).2.2.2.1)] rfl (by kernel_rfl) (fun _ _ => by kernel_rfl) (by kernel_rfl) ((ref_Lay w.heap.size bc bj pg Z.length cg fa m fc k Z pj (l.length / 256) cj lc (T.getD i stD).2.1 (T.getD i stD).2.2.1 (T.getD i stD).2.2.2.1 (T.getD i stD).2.2.2.2 _ hR hJ (fun W hb => (hTb i (by omega)).below (hB.trans hb)) hB.size).mono ?_))
                rintro e W78 ⟨a5, c5, fa2, m2, fc2, rfl, hb78, hO78, hR, hJ, h5⟩
                refine ⟨_, rfl, ?_⟩
                replace hB := hB.trans hb78
                replace k38_b11 := k38_b11.only hO78 (by decide)
                replace k41 := k41.only hO78 (by decide)
                replace k45 := k45.only hO78 (by decide)
                replace hI := hI.only hO78 (by decide)
                replace hA := hA.only hO78 (by decide)
                replace hv := hv.only hO78 (by decide)
                have hRm := hR.hm
                refine g_pv 4 [(118, .tuple #[.int .i64 (lyV k Z.length (l.length / 256) Z (T.getD i stD).2.1 (T.getD i stD).2.2.2.2), .agg #[.slice a5 ((lyB k Z.length (l.length / 256) Z (T.getD i stD).2.1 (T.getD i stD).2.2.2.2).length) c5, .int .i64 (lyE k Z.length (l.length / 256) Z (T.getD i stD).2.1 (T.getD i stD).2.2.2.2)]]), (125, .int .i64 (lyV k Z.length (l.length / 256) Z (T.getD i stD).2.1 (T.getD i stD).2.2.2.2)), (126, .agg #[.slice a5 ((lyB k Z.length (l.length / 256) Z (T.getD i stD).2.1 (T.getD i stD).2.2.2.2).length) c5, .int .i64 (lyE k Z.length (l.length / 256) Z (T.getD i stD).2.1 (T.getD i stD).2.2.2.2)]), (19, .int .i64 (lyV k Z.length (l.length / 256) Z (T.getD i stD).2.1 (T.getD i stD).2.2.2.2))] (by kernel_rfl) ?_
                refine g_op (by kernel_rfl) (op_storev (b := b44) (off := 0) [.slice a5 ((lyB k Z.length (l.length / 256) Z (T.getD i stD).2.1 (T.getD i stD).2.2.2.2).length) c5, .int .i64 (lyE k Z.length (l.length / 256) Z (T.getD i stD).2.1 (T.getD i stD).2.2.2.2)] rfl (by kernel_rfl) (by kernel_rfl) (by kernel_rfl) (by first | decide | simp [Value.oneCell']) k45 (by first | decide | simp) ?_)
                intro W79 u79 k79
                change Blk _ _ [.slice a5 ((lyB k Z.length (l.length / 256) Z (T.getD i stD).2.1 (T.getD i stD).2.2.2.2).length) c5, .int .i64 (lyE k Z.length (l.length / 256) Z (T.getD i stD).2.1 (T.getD i stD).2.2.2.2)] _ at k79
                replace hB := u79.below hB g44
                replace k38_b11 := u79.blk k38_b11 (Ne.symm (Ne.symm d44_b11))
                replace k41 := u79.blk k41 (Ne.symm (Ne.symm d44_b40))
                replace hI := hI.only (Only.of_upd (T := [33]) u79 k45 (by decide)) (by decide)
                replace hJ := hJ.only (Only.of_upd (T := [33]) u79 k45 (by decide)) (by decide)
                replace hA := hA.only (Only.of_upd (T := [33]) u79 k45 (by decide)) (by decide)
                replace hR := hR.only (Only.of_upd (T := [33]) u79 k45 (by decide)) (by decide)
                replace hv := hv.only (Only.of_upd (T := [33]) u79 k45 (by decide)) (by decide)
                replace h5 := u79.own2 h5 k45 (by decide)
                refine wpList_nil ?_
                refine wp_seq ?_
                replace hB := Bl.next hB (below_drew W79)
                replace k38_b11 := k38_b11.below (below_drew W79)
                replace k41 := k41.below (below_drew W79)
                replace k79 := k79.below (below_drew W79)
                replace hI := hI.below (below_drew W79)
                replace hJ := hJ.below (below_drew W79)
                replace hA := hA.below (below_drew W79)
                replace hR := hR.below (below_drew W79)
                replace hv := hv.below (below_drew W79)
                replace h5 := own_below h5 (below_drew W79)
                refine h_reg (Below (W79.drew).heap.size (W79.drew)) 39 rfl #[false, false, false, false, false, false, false, false, false, false, false, false, false, false, false, false, false, false, false, false, false, false, false, false, false, false, false, false, false, false, false, false, false, false, false, false, false, false, false] rfl (by kernel_rfl) (Below.refl _ _) ?_
                intro hS80
                have hBd82 := hB
                have kd82_b11 := k38_b11
                have kd82_b40 := k41
                have kd82_b44 := k79
                refine h_pv [0, 1, 2, 3] 35 rfl #[true, true, true, true, false, false, false, false, false, false, false, false, false, false, false, false, false, false, false, false, false, false, false, false, false, false, false, false, false, false, false, false, false, false, false, false, false, false, false] [(127, .int .i64 (lyV k Z.length (l.length / 256) Z (T.getD i stD).2.1 (T.getD i stD).2.2.2.2)), (128, .int .i64 (lyV k Z.length (l.length / 256) Z (T.getD i stD).2.1 (T.getD i stD).2.2.2.2)), (129, .bool ((lyV k Z.length (l.length / 256) Z (T.getD i stD).2.1 (T.getD i stD).2.2.2.2) != (lyV k Z.length (l.length / 256) Z (T.getD i stD).2.1 (T.getD i stD).2.2.2.2))), (130, .bool ((lyV k Z.length (l.length / 256) Z (T.getD i stD).2.1 (T.getD i stD).2.2.2.2) != (lyV k Z.length (l.length / 256) Z (T.getD i stD).2.1 (T.getD i stD).2.2.2.2)))] (by kernel_rfl) (fun _ _ _ _ _ h => h) (by kernel_rfl) hS80 ?_
                have hc83 : (((lyV k Z.length (l.length / 256) Z (T.getD i stD).2.1 (T.getD i stD).2.2.2.2) != (lyV k Z.length (l.length / 256) Z (T.getD i stD).2.1 (T.getD i stD).2.2.2.2)) : Bool) = false := by simp
                refine h_b [129, 130] _ _ hc83 (by kernel_rfl) ?_
                refine h_pv [4] 34 rfl #[true, true, true, true, true, false, false, false, false, false, false, false, false, false, false, false, false, false, false, false, false, false, false, false, false, false, false, false, false, false, false, false, false, false, false, false, false, false, false] [(131, ve)] (by kernel_rfl) (fun _ _ _ _ _ h => h) (by kernel_rfl) hS80 ?_
                refine h_loadv (b := b44) (off := 0) 6 33 rfl [.slice a5 ((lyB k Z.length (l.length / 256) Z (T.getD i stD).2.1 (T.getD i stD).2.2.2.2).length) c5, .int .i64 (lyE k Z.length (l.length / 256) Z (T.getD i stD).2.1 (T.getD i stD).2.2.2.2)] _ rfl (by kernel_rfl) (by kernel_rfl) (by kernel_rfl) (fun _ _ _ _ _ h => h) (by kernel_rfl) rfl (by kernel_rfl) Tryz.underlying33 rfl (by kernel_rfl) (fun V hV => (k79.below hV).whole) hS80 ?_
                refine h_one 5 32 rfl (by kernel_rfl) rfl (by kernel_rfl) (op_call (lb := #[]) 15 #[ve] rfl (by kernel_rfl) (fun _ _ => by kernel_rfl) (by kernel_rfl) ((told_l k Z.length (l.length / 256) Z (T.getD i stD).2.1 (T.getD i stD).2.2.2.2 _ _ (hg.below hB) hv).mono ?_))
                rintro e W84 ⟨vt84, rfl, hb84, hq⟩
                refine ⟨_, rfl, ?_⟩
                replace hB := Bl.next hB hb84
                replace k38_b11 := k38_b11.below hb84
                replace k41 := k41.below hb84
                replace k79 := k79.below hb84
                replace hI := hI.below hb84
                replace hJ := hJ.below hb84
                replace hA := hA.below hb84
                replace hR := hR.below hb84
                replace hv := hv.below hb84
                replace h5 := own_below h5 hb84
                have hS85 : Below (W79.drew).heap.size (W79.drew) (W84) := Bl.next hS80 hb84
                refine ⟨hS85, ?_⟩
                refine h_str (Below (W84).heap.size (W84)) (fun V hV => Bl.next hS85 hV) ?_
                have hS86 : Below (W84).heap.size (W84) (W84) := Below.refl _ _
                refine h_one 7 31 rfl (by kernel_rfl) rfl (by kernel_rfl) (op_call (lb := #[]) 14 #[vt84, .agg #[.slice a5 ((lyB k Z.length (l.length / 256) Z (T.getD i stD).2.1 (T.getD i stD).2.2.2.2).length) c5, .int .i64 (lyE k Z.length (l.length / 256) Z (T.getD i stD).2.1 (T.getD i stD).2.2.2.2)]] rfl (by kernel_rfl) (fun _ _ => by kernel_rfl) (by kernel_rfl) ((ref05_Same (lyB k Z.length (l.length / 256) Z (T.getD i stD).2.1 (T.getD i stD).2.2.2.2) (lyE k Z.length (l.length / 256) Z (T.getD i stD).2.1 (T.getD i stD).2.2.2.2) vt84 _ _ hq ⟨_, rfl, by have := own_sl h5; unfold Ints; exact this⟩).mono ?_))
                rintro e W87 ⟨rfl, hb87⟩
                refine ⟨_, rfl, ?_⟩
                replace hB := Bl.next hB hb87
                replace k38_b11 := k38_b11.below hb87
                replace k41 := k41.below hb87
                replace k79 := k79.below hb87
                replace hI := hI.below hb87
                replace hJ := hJ.below hb87
                replace hA := hA.below hb87
                replace hR := hR.below hb87
                replace hv := hv.below hb87
                replace h5 := own_below h5 hb87
                replace hq := hq.below hb87
                have hS88 : Below (W84).heap.size (W84) (W87) := Bl.next hS86 hb87
                refine ⟨hS88, ?_⟩
                refine h_str (Below (W87).heap.size (W87)) (fun V hV => Bl.next hS88 hV) ?_
                have hS89 : Below (W87).heap.size (W87) (W87) := Below.refl _ _
                refine h_pv [8, 9, 10, 11, 13, 14, 15] 24 rfl #[true, true, true, true, true, true, true, true, true, true, true, true, false, true, true, true, false, false, false, false, false, false, false, false, false, false, false, false, false, false, false, false, false, false, false, false, false, false, false] [(135, .bool false), (136, .bool false), (137, .bool false), (138, .pointer (some ⟨ba, 0, none⟩)), (140, .pointer (some ⟨bc, 0, none⟩)), (141, .pointer (some ⟨bc, 0, none⟩)), (142, .pointer (some ⟨bc, 1, none⟩))] (by kernel_rfl) (fun _ _ _ _ _ h => h) (by kernel_rfl) hS89 ?_
                refine h_load 16 23 rfl ⟨bc, 1, none⟩ (.slice fa2 m2 fc2) rfl (by kernel_rfl) (by kernel_rfl) (by kernel_rfl) (fun _ _ _ _ _ h => h) (by kernel_rfl) rfl (by kernel_rfl) (by kernel_rfl) (fun V hV => ((hR.below hV).blk.cell (i := 1) rfl)) hS89 ?_
                refine h_pv [17] 22 rfl #[true, true, true, true, true, true, true, true, true, true, true, true, false, true, true, true, true, true, false, false, false, false, false, false, false, false, false, false, false, false, false, false, false, false, false, false, false, false, false] [(144, .int .i64 (↑m2 : Int))] (by kernel_rfl) (fun _ _ _ _ _ h => h) (by kernel_rfl) hS89 ?_
                refine h_one 12 21 rfl (by kernel_rfl) rfl (by kernel_rfl) (op_call (lb := #[]) 29 #[.pointer (some ⟨ba, 0, none⟩)] rfl (by kernel_rfl) (fun _ _ => by kernel_rfl) (by kernel_rfl) ((alloc_Left ba bi pa Z.length ca (lyK k Z.length (l.length / 256) Z (T.getD i stD).2.1 (T.getD i stD).2.2.2.2) _ hA.blk hA.hk).mono ?_))
                rintro e W90 ⟨rfl, hb90⟩
                refine ⟨_, rfl, ?_⟩
                replace hB := Bl.next hB hb90
                replace k38_b11 := k38_b11.below hb90
                replace k41 := k41.below hb90
                replace k79 := k79.below hb90
                replace hI := hI.below hb90
                replace hJ := hJ.below hb90
                replace hA := hA.below hb90
                replace hR := hR.below hb90
                replace hv := hv.below hb90
                replace h5 := own_below h5 hb90
                have hS91 : Below (W87).heap.size (W87) (W90) := Bl.next hS89 hb90
                refine ⟨hS91, ?_⟩
                refine h_str (Below (W90).heap.size (W90)) (fun V hV => Bl.next hS91 hV) ?_
                have hS92 : Below (W90).heap.size (W90) (W90) := Below.refl _ _
                refine h_pv [18, 19, 20] 18 rfl #[true, true, true, true, true, true, true, true, true, true, true, true, true, true, true, true, true, true, true, true, true, false, false, false, false, false, false, false, false, false, false, false, false, false, false, false, false, false, false] [(145, .bool ((↑(Z.length - (lyK k Z.length (l.length / 256) Z (T.getD i stD).2.1 (T.getD i stD).2.2.2.2)) : Int) != (↑m2 : Int))), (146, .bool ((↑(Z.length - (lyK k Z.length (l.length / 256) Z (T.getD i stD).2.1 (T.getD i stD).2.2.2.2)) : Int) != (↑m2 : Int))), (147, .bool ((↑(Z.length - (lyK k Z.length (l.length / 256) Z (T.getD i stD).2.1 (T.getD i stD).2.2.2.2)) : Int) != (↑m2 : Int)))] (by kernel_rfl) (fun _ _ _ _ _ h => h) (by kernel_rfl) hS92 ?_
                have hc93 : (((↑(Z.length - (lyK k Z.length (l.length / 256) Z (T.getD i stD).2.1 (T.getD i stD).2.2.2.2)) : Int) != (↑m2 : Int)) : Bool) = false := by rw [bne_eq_false_iff_eq]; omega
                refine h_b [145, 146, 147] _ _ hc93 (by kernel_rfl) ?_
                refine h_pv [21, 23, 24, 25] 14 rfl #[true, true, true, true, true, true, true, true, true, true, true, true, true, true, true, true, true, true, true, true, true, true, false, true, true, true, false, false, false, false, false, false, false, false, false, false, false, false, false] [(148, .pointer (some ⟨ba, 0, none⟩)), (150, .pointer (some ⟨bc, 0, none⟩)), (151, .pointer (some ⟨bc, 0, none⟩)), (152, .pointer (some ⟨bc, 2, none⟩))] (by kernel_rfl) (fun _ _ _ _ _ h => h) (by kernel_rfl) hS92 ?_
                refine h_load 26 13 rfl ⟨bc, 2, none⟩ (.int .i64 (↑(lyK k Z.length (l.length / 256) Z (T.getD i stD).2.1 (T.getD i stD).2.2.2.2) : Int)) rfl (by kernel_rfl) (by kernel_rfl) (by kernel_rfl) (fun _ _ _ _ _ h => h) (by kernel_rfl) rfl (by kernel_rfl) (by kernel_rfl) (fun V hV => ((hR.below hV).blk.cell (i := 2) rfl)) hS92 ?_
                refine h_one 22 12 rfl (by kernel_rfl) rfl (by kernel_rfl) (op_call (lb := #[]) 16 #[.pointer (some ⟨ba, 0, none⟩)] rfl (by kernel_rfl) (fun _ _ => by kernel_rfl) (by kernel_rfl) ((alloc_Used ba bi _ (lyK k Z.length (l.length / 256) Z (T.getD i stD).2.1 (T.getD i stD).2.2.2.2) _ hA.blk).mono ?_))
                rintro e W94 ⟨rfl, hb94⟩
                refine ⟨_, rfl, ?_⟩
                replace hB := Bl.next hB hb94
                replace k38_b11 := k38_b11.below hb94
                replace k41 := k41.below hb94
                replace k79 := k79.below hb94
                replace hI := hI.below hb94
                replace hJ := hJ.below hb94
                replace hA := hA.below hb94
                replace hR := hR.below hb94
                replace hv := hv.below hb94
                replace h5 := own_below h5 hb94
                have hS95 : Below (W90).heap.size (W90) (W94) := Bl.next hS92 hb94
                refine ⟨hS95, ?_⟩
                refine h_str (Below (W94).heap.size (W94)) (fun V hV => Bl.next hS95 hV) ?_
                have hS96 : Below (W94).heap.size (W94) (W94) := Below.refl _ _
                refine h_pv [27, 28, 29] 9 rfl #[true, true, true, true, true, true, true, true, true, true, true, true, true, true, true, true, true, true, true, true, true, true, true, true, true, true, true, true, true, true, false, false, false, false, false, false, false, false, false] [(154, .bool ((↑(lyK k Z.length (l.length / 256) Z (T.getD i stD).2.1 (T.getD i stD).2.2.2.2) : Int) != (↑(lyK k Z.length (l.length / 256) Z (T.getD i stD).2.1 (T.getD i stD).2.2.2.2) : Int))), (155, .bool ((↑(lyK k Z.length (l.length / 256) Z (T.getD i stD).2.1 (T.getD i stD).2.2.2.2) : Int) != (↑(lyK k Z.length (l.length / 256) Z (T.getD i stD).2.1 (T.getD i stD).2.2.2.2) : Int))), (156, .bool ((↑(lyK k Z.length (l.length / 256) Z (T.getD i stD).2.1 (T.getD i stD).2.2.2.2) : Int) != (↑(lyK k Z.length (l.length / 256) Z (T.getD i stD).2.1 (T.getD i stD).2.2.2.2) : Int)))] (by kernel_rfl) (fun _ _ _ _ _ h => h) (by kernel_rfl) hS96 ?_
                have hc97 : (((↑(lyK k Z.length (l.length / 256) Z (T.getD i stD).2.1 (T.getD i stD).2.2.2.2) : Int) != (↑(lyK k Z.length (l.length / 256) Z (T.getD i stD).2.1 (T.getD i stD).2.2.2.2) : Int)) : Bool) = false := by simp
                refine h_b [154, 155, 156] _ _ hc97 (by kernel_rfl) ?_
                refine h_pv [30, 31, 33, 34] 5 rfl #[true, true, true, true, true, true, true, true, true, true, true, true, true, true, true, true, true, true, true, true, true, true, true, true, true, true, true, true, true, true, true, true, false, true, true, false, false, false, false] [(157, .pointer (some ⟨ba, 0, none⟩)), (158, .int .i64 (↑i : Int)), (160, .pointer (some ⟨bc, 0, none⟩)), (161, .int .i64 (↑i : Int))] (by kernel_rfl) (fun _ _ _ _ _ h => h) (by kernel_rfl) hS96 ?_
                have hs98 : w.heap.size ≤ (W94).heap.size := hB.size
                refine h_one 32 4 rfl (by kernel_rfl) rfl (by kernel_rfl) (op_call (lb := #[]) 31 #[.pointer (some ⟨ba, 0, none⟩), .int .i64 (↑i : Int)] rfl (by kernel_rfl) (fun _ _ => by kernel_rfl) (by kernel_rfl) ((alloc_Ahead w.heap.size ba bi pa Z.length ca (lyK k Z.length (l.length / 256) Z (T.getD i stD).2.1 (T.getD i stD).2.2.2.2) i Z _ hA (by omega)).mono ?_))
                rintro e W98 ⟨_, rfl, hb98, q6, c6, rfl, h6⟩
                refine ⟨_, rfl, ?_⟩
                replace hB := Bl.next hB hb98
                replace k38_b11 := k38_b11.below hb98
                replace k41 := k41.below hb98
                replace k79 := k79.below hb98
                replace hI := hI.below hb98
                replace hJ := hJ.below hb98
                replace hA := hA.below hb98
                replace hR := hR.below hb98
                replace hv := hv.below hb98
                replace h5 := own_below h5 hb98
                replace h6 := own_mono h6 hs98
                have hS99 : Below (W94).heap.size (W94) (W98) := Bl.next hS96 hb98
                refine ⟨hS99, ?_⟩
                refine h_str (Below (W98).heap.size (W98)) (fun V hV => Bl.next hS99 hV) ?_
                have hS100 : Below (W98).heap.size (W98) (W98) := Below.refl _ _
                have hs101 : w.heap.size ≤ (W98).heap.size := hB.size
                refine h_one 35 3 rfl (by kernel_rfl) rfl (by kernel_rfl) (op_call (lb := #[]) 32 #[.pointer (some ⟨bc, 0, none⟩), .int .i64 (↑i : Int)] rfl (by kernel_rfl) (fun _ _ => by kernel_rfl) (by kernel_rfl) ((ref_Ahead w.heap.size bc bj pg Z.length cg fa2 m2 fc2 (lyK k Z.length (l.length / 256) Z (T.getD i stD).2.1 (T.getD i stD).2.2.2.2) i Z _ hR (by omega)).mono ?_))
                rintro e W101 ⟨_, rfl, hb101, q7, c7, rfl, h7⟩
                refine ⟨_, rfl, ?_⟩
                replace hB := Bl.next hB hb101
                replace k38_b11 := k38_b11.below hb101
                replace k41 := k41.below hb101
                replace k79 := k79.below hb101
                replace hI := hI.below hb101
                replace hJ := hJ.below hb101
                replace hA := hA.below hb101
                replace hR := hR.below hb101
                replace hv := hv.below hb101
                replace h5 := own_below h5 hb101
                replace h6 := own_below h6 hb101
                replace h7 := own_mono h7 hs101
                have hS102 : Below (W98).heap.size (W98) (W101) := Bl.next hS100 hb101
                refine ⟨hS102, ?_⟩
                refine h_str (Below (W101).heap.size (W101)) (fun V hV => Bl.next hS102 hV) ?_
                have hS103 : Below (W101).heap.size (W101) (W101) := Below.refl _ _
                refine h_one 36 2 rfl (by kernel_rfl) rfl (by kernel_rfl) (op_call (lb := #[]) 30 #[.slice q6 (min i (Z.length - (lyK k Z.length (l.length / 256) Z (T.getD i stD).2.1 (T.getD i stD).2.2.2.2))) c6, .slice q7 (min i (Z.length - (lyK k Z.length (l.length / 256) Z (T.getD i stD).2.1 (T.getD i stD).2.2.2.2))) c7] rfl (by kernel_rfl) (fun _ _ => by kernel_rfl) (by kernel_rfl) ((ref01_SameN q6 q7 (min i (Z.length - (lyK k Z.length (l.length / 256) Z (T.getD i stD).2.1 (T.getD i stD).2.2.2.2))) c6 c7 ((Z.drop (lyK k Z.length (l.length / 256) Z (T.getD i stD).2.1 (T.getD i stD).2.2.2.2)).take i) _ (by rw [List.length_take, List.length_drop, hLN]) (own_sl h6) (own_sl h7) (by omega)).mono ?_))
                rintro e W104 ⟨rfl, hb104⟩
                refine ⟨_, rfl, ?_⟩
                replace hB := Bl.next hB hb104
                replace k38_b11 := k38_b11.below hb104
                replace k41 := k41.below hb104
                replace k79 := k79.below hb104
                replace hI := hI.below hb104
                replace hJ := hJ.below hb104
                replace hA := hA.below hb104
                replace hR := hR.below hb104
                replace hv := hv.below hb104
                replace h5 := own_below h5 hb104
                replace h6 := own_below h6 hb104
                replace h7 := own_below h7 hb104
                have hS105 : Below (W101).heap.size (W101) (W104) := Bl.next hS103 hb104
                refine ⟨hS105, ?_⟩
                refine h_str (Below (W104).heap.size (W104)) (fun V hV => Bl.next hS105 hV) ?_
                have hS106 : Below (W104).heap.size (W104) (W104) := Below.refl _ _
                refine h_pv [37, 38] 0 rfl #[true, true, true, true, true, true, true, true, true, true, true, true, true, true, true, true, true, true, true, true, true, true, true, true, true, true, true, true, true, true, true, true, true, true, true, true, true, true, true] [(164, .bool false), (165, .bool false)] (by kernel_rfl) (fun _ _ _ _ _ h => h) (by kernel_rfl) hS106 ?_
                refine h_done _ (by kernel_rfl) ?_
                refine wp_cond_false (by kernel_rfl) ?_
                refine wp_skip ?_
                refine wp_region_lit ?_
                refine g_pv 1 [(85, .int .i64 (↑i : Int))] (by kernel_rfl) ?_
                refine g_op (by kernel_rfl) (op_val (run_wrap .i64 ((↑i : Int) + 1) (↑(i + 1) : Int) (by kernel_rfl) ((show IntKind.i64.wrap ((↑i : Int) + 1) = ((↑i : Int) + 1) from by first | exact IntWalk.i64_in _ (by omega) | (simp only [IntKind.wrap]; omega)).trans (by omega)) _) ?_)
                refine g_pv 1 [(15, .int .i64 (↑(i + 1) : Int))] (by kernel_rfl) ?_
                refine wpList_nil ?_
                refine g_nfr ⟨#[.slice a l.length c, .int .i64 f, .slice aZ Z.length cZ, .slice aT T.length cT, undef, undef, undef, undef, (x38 0), .pointer (some ⟨bi, 0, none⟩), .pointer (some ⟨bj, 0, none⟩), .pointer (some ⟨ba, 0, none⟩), .nilIface, .pointer (some ⟨bc, 0, none⟩), .pointer (some ⟨b11, 0, none⟩), .int .i64 (↑(i + 1) : Int), .pointer (some ⟨b40, 0, none⟩), .int .i64 (lyV k Z.length (l.length / 256) Z (T.getD i stD).2.1 (T.getD i stD).2.2.2.2), ve, .int .i64 (lyV k Z.length (l.length / 256) Z (T.getD i stD).2.1 (T.getD i stD).2.2.2.2), .pointer (some ⟨b44, 0, none⟩), .slice a l.length c, .int .i64 (↑l.length : Int), .bool false, .bool false, .slice aT T.length cT, .int .i64 (↑T.length : Int), .bool false, .bool false, .bool false, .slice aZ Z.length cZ, .int .i64 (↑Z.length : Int), .bool (decide ((↑Z.length : Int) > (100 : Int))), .bool (decide ((↑Z.length : Int) > (100 : Int))), undef, .slice a l.length c, .pointer (some ⟨bi, 0, none⟩), .slice a l.length c, .pointer (some ⟨bj, 0, none⟩), .tuple #[v1, v2], .pointer (some ⟨bi, 0, none⟩), .int .i64 f, .tuple #[v1, v2], v1, v2, .tuple #[v3, .agg #[.slice none 0 0, .int .i64 er3]], .pointer (some ⟨bj, 0, none⟩), .int .i64 f, .tuple #[v3, .agg #[.slice none 0 0, .int .i64 er3]], v3, .agg #[.slice none 0 0, .int .i64 er3], .slice aZ Z.length cZ, .int .i64 (↑Z.length : Int), .bool (decide ((↑Z.length : Int) > (0 : Int))), .tuple #[.pointer (some ⟨ba, 0, none⟩), .nilIface], .pointer (some ⟨bi, 0, none⟩), .slice aZ Z.length cZ, .tuple #[.pointer (some ⟨ba, 0, none⟩), .nilIface], .pointer (some ⟨ba, 0, none⟩), .nilIface, .tuple #[.pointer (some ⟨bc, 0, none⟩), .agg #[.slice none 0 0, .int .i64 0]], .pointer (some ⟨bj, 0, none⟩), .slice aZ Z.length cZ, .tuple #[.pointer (some ⟨bc, 0, none⟩), .agg #[.slice none 0 0, .int .i64 0]], .pointer (some ⟨bc, 0, none⟩), .agg #[.slice none 0 0, .int .i64 0], .nilIface, vt32, .agg #[.slice none 0 0, .int .i64 0], .bool true, .bool false, .bool false, .pointer (some ⟨ba, 0, none⟩), .bool false, .pointer (some ⟨bc, 0, none⟩), .bool false, .bool false, .bool false, .pointer (some ⟨ba, 0, none⟩), .bool false, undef, .int .i64 (↑i : Int), .slice aT T.length cT, .int .i64 (↑T.length : Int), .bool (decide ((↑i : Int) < (↑T.length : Int))), .int .i64 (↑i : Int), .int .i64 (↑(i + 1) : Int), .slice aT T.length cT, .int .i64 (↑i : Int), .pointer (some (elemAddr aT (i * 3))), .agg #[.bool ((T.getD i stD).1), .int .i64 ((T.getD i stD).2.1), .slice ((T.getD i stD).2.2.1) ((T.getD i stD).2.2.2.2.length) ((T.getD i stD).2.2.2.1)], .pointer (some ⟨b40, 2, none⟩), .slice ((T.getD i stD).2.2.1) ((T.getD i stD).2.2.2.2.length) ((T.getD i stD).2.2.2.1), .int .i64 (↑((T.getD i stD).2.2.2.2.length) : Int), .bool (decide ((↑((T.getD i stD).2.2.2.2.length) : Int) > (600 : Int))), (x38 20), .agg #[.slice none 0 0, .int .i64 0], .pointer (some ⟨b40, 0, none⟩), .bool ((T.getD i stD).1), (x38 24), (x38 25), (x38 26), (x38 27), (x38 28), (x38 29), (x38 30), (x38 31), (x38 32), (x38 33), .tuple #[.int .i64 (lyV k Z.length (l.length / 256) Z (T.getD i stD).2.1 (T.getD i stD).2.2.2.2), ve], .pointer (some ⟨ba, 0, none⟩), .pointer (some ⟨b40, 1, none⟩), .int .i64 ((T.getD i stD).2.1), .pointer (some ⟨b40, 2, none⟩), .slice ((T.getD i stD).2.2.1) ((T.getD i stD).2.2.2.2.length) ((T.getD i stD).2.2.2.1), .tuple #[.int .i64 (lyV k Z.length (l.length / 256) Z (T.getD i stD).2.1 (T.getD i stD).2.2.2.2), ve], .int .i64 (lyV k Z.length (l.length / 256) Z (T.getD i stD).2.1 (T.getD i stD).2.2.2.2), ve, .tuple #[.int .i64 (lyV k Z.length (l.length / 256) Z (T.getD i stD).2.1 (T.getD i stD).2.2.2.2), .agg #[.slice a5 ((lyB k Z.length (l.length / 256) Z (T.getD i stD).2.1 (T.getD i stD).2.2.2.2).length) c5, .int .i64 (lyE k Z.length (l.length / 256) Z (T.getD i stD).2.1 (T.getD i stD).2.2.2.2)]], .pointer (some ⟨bc, 0, none⟩), .pointer (some ⟨b40, 1, none⟩), .int .i64 ((T.getD i stD).2.1), .pointer (some ⟨b40, 2, none⟩), .slice ((T.getD i stD).2.2.1) ((T.getD i stD).2.2.2.2.length) ((T.getD i stD).2.2.2.1), .tuple #[.int .i64 (lyV k Z.length (l.length / 256) Z (T.getD i stD).2.1 (T.getD i stD).2.2.2.2), .agg #[.slice a5 ((lyB k Z.length (l.length / 256) Z (T.getD i stD).2.1 (T.getD i stD).2.2.2.2).length) c5, .int .i64 (lyE k Z.length (l.length / 256) Z (T.getD i stD).2.1 (T.getD i stD).2.2.2.2)]], .int .i64 (lyV k Z.length (l.length / 256) Z (T.getD i stD).2.1 (T.getD i stD).2.2.2.2), .agg #[.slice a5 ((lyB k Z.length (l.length / 256) Z (T.getD i stD).2.1 (T.getD i stD).2.2.2.2).length) c5, .int .i64 (lyE k Z.length (l.length / 256) Z (T.getD i stD).2.1 (T.getD i stD).2.2.2.2)], .int .i64 (lyV k Z.length (l.length / 256) Z (T.getD i stD).2.1 (T.getD i stD).2.2.2.2), .int .i64 (lyV k Z.length (l.length / 256) Z (T.getD i stD).2.1 (T.getD i stD).2.2.2.2), .bool false, .bool false, ve, vt84, .agg #[.slice a5 ((lyB k Z.length (l.length / 256) Z (T.getD i stD).2.1 (T.getD i stD).2.2.2.2).length) c5, .int .i64 (lyE k Z.length (l.length / 256) Z (T.getD i stD).2.1 (T.getD i stD).2.2.2.2)], .bool true, .bool false, .bool false, .bool false, .pointer (some ⟨ba, 0, none⟩), .int .i64 (↑(Z.length - (lyK k Z.length (l.length / 256) Z (T.getD i stD).2.1 (T.getD i stD).2.2.2.2)) : Int), .pointer (some ⟨bc, 0, none⟩), .pointer (some ⟨bc, 0, none⟩), .pointer (some ⟨bc, 1, none⟩), .slice fa2 m2 fc2, .int .i64 (↑m2 : Int), .bool false, .bool false, .bool false, .pointer (some ⟨ba, 0, none⟩), .int .i64 (↑(lyK k Z.length (l.length / 256) Z (T.getD i stD).2.1 (T.getD i stD).2.2.2.2) : Int), .pointer (some ⟨bc, 0, none⟩), .pointer (some ⟨bc, 0, none⟩), .pointer (some ⟨bc, 2, none⟩), .int .i64 (↑(lyK k Z.length (l.length / 256) Z (T.getD i stD).2.1 (T.getD i stD).2.2.2.2) : Int), .bool false, .bool false, .bool false, .pointer (some ⟨ba, 0, none⟩), .int .i64 (↑i : Int), .slice q6 (min i (Z.length - (lyK k Z.length (l.length / 256) Z (T.getD i stD).2.1 (T.getD i stD).2.2.2.2))) c6, .pointer (some ⟨bc, 0, none⟩), .int .i64 (↑i : Int), .slice q7 (min i (Z.length - (lyK k Z.length (l.length / 256) Z (T.getD i stD).2.1 (T.getD i stD).2.2.2.2))) c7, .bool true, .bool false, .bool false, undef, undef, undef, undef, undef, undef, undef, undef, undef, undef, undef, undef, undef, undef, undef, undef, undef, undef, undef, undef], []⟩ (by kernel_rfl) ?_
                refine ⟨⟨i + 1, (lyK k Z.length (l.length / 256) Z (T.getD i stD).2.1 (T.getD i stD).2.2.2.2), (lyL k Z.length (l.length / 256) Z (T.getD i stD).2.1 (T.getD i stD).2.2.2.2 lc), fa2, m2, fc2, (pk [(x38 0), .pointer (some ⟨b40, 0, none⟩), .int .i64 (lyV k Z.length (l.length / 256) Z (T.getD i stD).2.1 (T.getD i stD).2.2.2.2), ve, .int .i64 (lyV k Z.length (l.length / 256) Z (T.getD i stD).2.1 (T.getD i stD).2.2.2.2), .pointer (some ⟨b44, 0, none⟩), .int .i64 (↑i : Int), .slice aT T.length cT, .int .i64 (↑T.length : Int), .bool (decide ((↑i : Int) < (↑T.length : Int))), .int .i64 (↑i : Int), .int .i64 (↑(i + 1) : Int), .slice aT T.length cT, .int .i64 (↑i : Int), .pointer (some (elemAddr aT (i * 3))), .agg #[.bool ((T.getD i stD).1), .int .i64 ((T.getD i stD).2.1), .slice ((T.getD i stD).2.2.1) ((T.getD i stD).2.2.2.2.length) ((T.getD i stD).2.2.2.1)], .pointer (some ⟨b40, 2, none⟩), .slice ((T.getD i stD).2.2.1) ((T.getD i stD).2.2.2.2.length) ((T.getD i stD).2.2.2.1), .int .i64 (↑((T.getD i stD).2.2.2.2.length) : Int), .bool (decide ((↑((T.getD i stD).2.2.2.2.length) : Int) > (600 : Int))), (x38 20), .agg #[.slice none 0 0, .int .i64 0], .pointer (some ⟨b40, 0, none⟩), .bool ((T.getD i stD).1), (x38 24), (x38 25), (x38 26), (x38 27), (x38 28), (x38 29), (x38 30), (x38 31), (x38 32), (x38 33), .tuple #[.int .i64 (lyV k Z.length (l.length / 256) Z (T.getD i stD).2.1 (T.getD i stD).2.2.2.2), ve], .pointer (some ⟨ba, 0, none⟩), .pointer (some ⟨b40, 1, none⟩), .int .i64 ((T.getD i stD).2.1), .pointer (some ⟨b40, 2, none⟩), .slice ((T.getD i stD).2.2.1) ((T.getD i stD).2.2.2.2.length) ((T.getD i stD).2.2.2.1), .tuple #[.int .i64 (lyV k Z.length (l.length / 256) Z (T.getD i stD).2.1 (T.getD i stD).2.2.2.2), ve], .int .i64 (lyV k Z.length (l.length / 256) Z (T.getD i stD).2.1 (T.getD i stD).2.2.2.2), ve, .tuple #[.int .i64 (lyV k Z.length (l.length / 256) Z (T.getD i stD).2.1 (T.getD i stD).2.2.2.2), .agg #[.slice a5 ((lyB k Z.length (l.length / 256) Z (T.getD i stD).2.1 (T.getD i stD).2.2.2.2).length) c5, .int .i64 (lyE k Z.length (l.length / 256) Z (T.getD i stD).2.1 (T.getD i stD).2.2.2.2)]], .pointer (some ⟨bc, 0, none⟩), .pointer (some ⟨b40, 1, none⟩), .int .i64 ((T.getD i stD).2.1), .pointer (some ⟨b40, 2, none⟩), .slice ((T.getD i stD).2.2.1) ((T.getD i stD).2.2.2.2.length) ((T.getD i stD).2.2.2.1), .tuple #[.int .i64 (lyV k Z.length (l.length / 256) Z (T.getD i stD).2.1 (T.getD i stD).2.2.2.2), .agg #[.slice a5 ((lyB k Z.length (l.length / 256) Z (T.getD i stD).2.1 (T.getD i stD).2.2.2.2).length) c5, .int .i64 (lyE k Z.length (l.length / 256) Z (T.getD i stD).2.1 (T.getD i stD).2.2.2.2)]], .int .i64 (lyV k Z.length (l.length / 256) Z (T.getD i stD).2.1 (T.getD i stD).2.2.2.2), .agg #[.slice a5 ((lyB k Z.length (l.length / 256) Z (T.getD i stD).2.1 (T.getD i stD).2.2.2.2).length) c5, .int .i64 (lyE k Z.length (l.length / 256) Z (T.getD i stD).2.1 (T.getD i stD).2.2.2.2)], .int .i64 (lyV k Z.length (l.length / 256) Z (T.getD i stD).2.1 (T.getD i stD).2.2.2.2), .int .i64 (lyV k Z.length (l.length / 256) Z (T.getD i stD).2.1 (T.getD i stD).2.2.2.2), .bool false, .bool false, ve, vt84, .agg #[.slice a5 ((lyB k Z.length (l.length / 256) Z (T.getD i stD).2.1 (T.getD i stD).2.2.2.2).length) c5, .int .i64 (lyE k Z.length (l.length / 256) Z (T.getD i stD).2.1 (T.getD i stD).2.2.2.2)], .bool true, .bool false, .bool false, .bool false, .pointer (some ⟨ba, 0, none⟩), .int .i64 (↑(Z.length - (lyK k Z.length (l.length / 256) Z (T.getD i stD).2.1 (T.getD i stD).2.2.2.2)) : Int), .pointer (some ⟨bc, 0, none⟩), .pointer (some ⟨bc, 0, none⟩), .pointer (some ⟨bc, 1, none⟩), .slice fa2 m2 fc2, .int .i64 (↑m2 : Int), .bool false, .bool false, .bool false, .pointer (some ⟨ba, 0, none⟩), .int .i64 (↑(lyK k Z.length (l.length / 256) Z (T.getD i stD).2.1 (T.getD i stD).2.2.2.2) : Int), .pointer (some ⟨bc, 0, none⟩), .pointer (some ⟨bc, 0, none⟩), .pointer (some ⟨bc, 2, none⟩), .int .i64 (↑(lyK k Z.length (l.length / 256) Z (T.getD i stD).2.1 (T.getD i stD).2.2.2.2) : Int), .bool false, .bool false, .bool false, .pointer (some ⟨ba, 0, none⟩), .int .i64 (↑i : Int), .slice q6 (min i (Z.length - (lyK k Z.length (l.length / 256) Z (T.getD i stD).2.1 (T.getD i stD).2.2.2.2))) c6, .pointer (some ⟨bc, 0, none⟩), .int .i64 (↑i : Int), .slice q7 (min i (Z.length - (lyK k Z.length (l.length / 256) Z (T.getD i stD).2.1 (T.getD i stD).2.2.2.2))) c7, .bool true, .bool false, .bool false]), (by kernel_rfl), hB, k38_b11, hA, hR, hI, hJ, by omega⟩, ?_⟩
                show T.length - ((↑(i + 1) : Int)).toNat < T.length - ((↑i : Int)).toNat
                omega
          · have hc39 := of_decide_eq_false hc39
            refine wp_exit ?_
            refine then_exit ?_
            refine then_exit ?_
            refine inBlock_hit ?_
            refine wp_seq ?_
            replace hB := Bl.next hB (below_drew W38)
            replace k38_b11 := k38_b11.below (below_drew W38)
            replace hI := hI.below (below_drew W38)
            replace hJ := hJ.below (below_drew W38)
            replace hA := hA.below (below_drew W38)
            replace hR := hR.below (below_drew W38)
            refine h_reg (Below (W38.drew).heap.size (W38.drew)) 21 rfl #[false, false, false, false, false, false, false, false, false, false, false, false, false, false, false, false, false, false, false, false, false] rfl (by kernel_rfl) (Below.refl _ _) ?_
            intro hS107
            have hBd109 := hB
            refine h_pv [0, 4] 19 rfl #[true, false, false, false, true, false, false, false, false, false, false, false, false, false, false, false, false, false, false, false, false] [(166, .pointer (some ⟨ba, 0, none⟩)), (170, .pointer (some ⟨bj, 0, none⟩))] (by kernel_rfl) (fun _ _ _ _ _ h => h) (by kernel_rfl) hS107 ?_
            refine h_one 1 18 rfl (by kernel_rfl) rfl (by kernel_rfl) (op_call (lb := #[]) 17 #[.pointer (some ⟨ba, 0, none⟩)] rfl (by kernel_rfl) (fun _ _ => by kernel_rfl) (by kernel_rfl) ((allocG_Image w.heap.size ba bi pa Z.length ca k Z _ hA).mono ?_))
            rintro e W110 ⟨rfl, hb110⟩
            refine ⟨_, rfl, ?_⟩
            replace hB := Bl.next hB hb110
            replace k38_b11 := k38_b11.below hb110
            replace hI := hI.below hb110
            replace hJ := hJ.below hb110
            replace hA := hA.below hb110
            replace hR := hR.below hb110
            have hS111 : Below (W38.drew).heap.size (W38.drew) (W110) := Bl.next hS107 hb110
            refine ⟨hS111, ?_⟩
            refine h_str (Below (W110).heap.size (W110)) (fun V hV => Bl.next hS111 hV) ?_
            have hS112 : Below (W110).heap.size (W110) (W110) := Below.refl _ _
            have hs113 : w.heap.size ≤ (W110).heap.size := hB.size
            refine h_one 2 17 rfl (by kernel_rfl) rfl (by kernel_rfl) (op_call (lb := #[]) 18 #[.pointer (some ⟨bi, 0, none⟩)] rfl (by kernel_rfl) (fun _ _ => by kernel_rfl) (by kernel_rfl) ((image_Bytes bi pi ((l.length / 256) * 256) ci lc _ hI.blk (bys_of (own_sl hI.row) hI.len) hI.len (by omega)).mono ?_))
            rintro e W113 ⟨_, rfl, hb113, z1_⟩
            refine ⟨_, rfl, ?_⟩
            replace hB := Bl.next hB hb113
            replace k38_b11 := k38_b11.below hb113
            replace hI := hI.below hb113
            replace hJ := hJ.below hb113
            replace hA := hA.below hb113
            replace hR := hR.below hb113
            replace z1_ := own_mono z1_ hs113
            unfold OwnB at z1_
            rw [hI.len] at z1_
            obtain ⟨q1_, d1_, rfl⟩ := (own_sl z1_).slice
            have hS114 : Below (W110).heap.size (W110) (W113) := Bl.next hS112 hb113
            refine ⟨hS114, ?_⟩
            refine h_str (Below (W113).heap.size (W113)) (fun V hV => Bl.next hS114 hV) ?_
            have hS115 : Below (W113).heap.size (W113) (W113) := Below.refl _ _
            refine h_val 3 16 rfl (.string ⟨lc.toArray⟩) rfl (by kernel_rfl) (by kernel_rfl) (by kernel_rfl) (fun _ _ _ _ _ h => h) (by kernel_rfl) (fun V hV => run_bstr rfl (by kernel_rfl) (bys_of ((own_sl z1_).below hV) hJ.hl) hJ.hl Tryz.underlying29 Tryz.underlying5 Tryz.underlying9) hS115 ?_
            have hs116 : w.heap.size ≤ (W113).heap.size := hB.size
            refine h_one 5 15 rfl (by kernel_rfl) rfl (by kernel_rfl) (op_call (lb := #[]) 19 #[.pointer (some ⟨bj, 0, none⟩)] rfl (by kernel_rfl) (fun _ _ => by kernel_rfl) (by kernel_rfl) ((ref_ImgBytes w.heap.size bj pj (l.length / 256) cj lc _ hJ).mono ?_))
            rintro e W116 ⟨_, rfl, hb116, q2_, d2_, rfl, z2_⟩
            refine ⟨_, rfl, ?_⟩
            replace hB := Bl.next hB hb116
            replace k38_b11 := k38_b11.below hb116
            replace hI := hI.below hb116
            replace hJ := hJ.below hb116
            replace hA := hA.below hb116
            replace hR := hR.below hb116
            replace z1_ := own_below z1_ hb116
            replace z2_ := own_mono z2_ hs116
            have hS117 : Below (W113).heap.size (W113) (W116) := Bl.next hS115 hb116
            refine ⟨hS117, ?_⟩
            refine h_str (Below (W116).heap.size (W116)) (fun V hV => Bl.next hS117 hV) ?_
            have hS118 : Below (W116).heap.size (W116) (W116) := Below.refl _ _
            refine h_val 6 14 rfl (.string ⟨lc.toArray⟩) rfl (by kernel_rfl) (by kernel_rfl) (by kernel_rfl) (fun _ _ _ _ _ h => h) (by kernel_rfl) (fun V hV => run_bstr rfl (by kernel_rfl) (bys_of ((own_sl z2_).below hV) hJ.hl) hJ.hl Tryz.underlying29 Tryz.underlying5 Tryz.underlying9) hS118 ?_
            refine h_pv [7, 8] 12 rfl #[true, true, true, true, true, true, true, true, true, false, false, false, false, false, false, false, false, false, false, false, false] [(173, .bool ((⟨lc.toArray⟩ : ByteArray).toList == (⟨lc.toArray⟩ : ByteArray).toList)), (174, .bool ((⟨lc.toArray⟩ : ByteArray).toList == (⟨lc.toArray⟩ : ByteArray).toList))] (by kernel_rfl) (fun _ _ _ _ _ h => h) (by kernel_rfl) hS118 ?_
            have hc119 : (((⟨lc.toArray⟩ : ByteArray).toList == (⟨lc.toArray⟩ : ByteArray).toList) : Bool) = true := by simp
            refine h_b [173, 174] _ _ hc119 (by kernel_rfl) ?_
            refine h_pv [9, 12] 10 rfl #[true, true, true, true, true, true, true, true, true, true, false, false, true, false, false, false, false, false, false, false, false] [(175, .pointer (some ⟨bi, 0, none⟩)), (178, .pointer (some ⟨bj, 0, none⟩))] (by kernel_rfl) (fun _ _ _ _ _ h => h) (by kernel_rfl) hS118 ?_
            have hs120 : w.heap.size ≤ (W116).heap.size := hB.size
            refine h_one 10 9 rfl (by kernel_rfl) rfl (by kernel_rfl) (op_call (lb := #[]) 18 #[.pointer (some ⟨bi, 0, none⟩)] rfl (by kernel_rfl) (fun _ _ => by kernel_rfl) (by kernel_rfl) ((image_Bytes bi pi ((l.length / 256) * 256) ci lc _ hI.blk (bys_of (own_sl hI.row) hI.len) hI.len (by omega)).mono ?_))
            rintro e W120 ⟨_, rfl, hb120, z3_⟩
            refine ⟨_, rfl, ?_⟩
            replace hB := Bl.next hB hb120
            replace k38_b11 := k38_b11.below hb120
            replace hI := hI.below hb120
            replace hJ := hJ.below hb120
            replace hA := hA.below hb120
            replace hR := hR.below hb120
            replace z1_ := own_below z1_ hb120
            replace z2_ := own_below z2_ hb120
            replace z3_ := own_mono z3_ hs120
            unfold OwnB at z3_
            rw [hI.len] at z3_
            obtain ⟨q3_, d3_, rfl⟩ := (own_sl z3_).slice
            have hS121 : Below (W116).heap.size (W116) (W120) := Bl.next hS118 hb120
            refine ⟨hS121, ?_⟩
            refine h_str (Below (W120).heap.size (W120)) (fun V hV => Bl.next hS121 hV) ?_
            have hS122 : Below (W120).heap.size (W120) (W120) := Below.refl _ _
            refine h_val 11 8 rfl (.string ⟨lc.toArray⟩) rfl (by kernel_rfl) (by kernel_rfl) (by kernel_rfl) (fun _ _ _ _ _ h => h) (by kernel_rfl) (fun V hV => run_bstr rfl (by kernel_rfl) (bys_of ((own_sl z3_).below hV) hJ.hl) hJ.hl Tryz.underlying29 Tryz.underlying5 Tryz.underlying9) hS122 ?_
            have hs123 : w.heap.size ≤ (W120).heap.size := hB.size
            refine h_one 13 7 rfl (by kernel_rfl) rfl (by kernel_rfl) (op_call (lb := #[]) 19 #[.pointer (some ⟨bj, 0, none⟩)] rfl (by kernel_rfl) (fun _ _ => by kernel_rfl) (by kernel_rfl) ((ref_ImgBytes w.heap.size bj pj (l.length / 256) cj lc _ hJ).mono ?_))
            rintro e W123 ⟨_, rfl, hb123, q4_, d4_, rfl, z4_⟩
            refine ⟨_, rfl, ?_⟩
            replace hB := Bl.next hB hb123
            replace k38_b11 := k38_b11.below hb123
            replace hI := hI.below hb123
            replace hJ := hJ.below hb123
            replace hA := hA.below hb123
            replace hR := hR.below hb123
            replace z1_ := own_below z1_ hb123
            replace z2_ := own_below z2_ hb123
            replace z3_ := own_below z3_ hb123
            replace z4_ := own_mono z4_ hs123
            have hS124 : Below (W120).heap.size (W120) (W123) := Bl.next hS122 hb123
            refine ⟨hS124, ?_⟩
            refine h_str (Below (W123).heap.size (W123)) (fun V hV => Bl.next hS124 hV) ?_
            have hS125 : Below (W123).heap.size (W123) (W123) := Below.refl _ _
            refine h_val 14 6 rfl (.string ⟨lc.toArray⟩) rfl (by kernel_rfl) (by kernel_rfl) (by kernel_rfl) (fun _ _ _ _ _ h => h) (by kernel_rfl) (fun V hV => run_bstr rfl (by kernel_rfl) (bys_of ((own_sl z4_).below hV) hJ.hl) hJ.hl Tryz.underlying29 Tryz.underlying5 Tryz.underlying9) hS125 ?_
            refine h_pv [15, 16, 17] 3 rfl #[true, true, true, true, true, true, true, true, true, true, true, true, true, true, true, true, true, true, false, false, false] [(181, .bool ((⟨lc.toArray⟩ : ByteArray).toList == (⟨lc.toArray⟩ : ByteArray).toList)), (182, .bool ((⟨lc.toArray⟩ : ByteArray).toList == (⟨lc.toArray⟩ : ByteArray).toList)), (183, .bool ((⟨lc.toArray⟩ : ByteArray).toList == (⟨lc.toArray⟩ : ByteArray).toList))] (by kernel_rfl) (fun _ _ _ _ _ h => h) (by kernel_rfl) hS125 ?_
            have hc126 : (((⟨lc.toArray⟩ : ByteArray).toList == (⟨lc.toArray⟩ : ByteArray).toList) : Bool) = true := by simp
            refine h_b [181, 182, 183] _ _ hc126 (by kernel_rfl) ?_
            refine h_one 18 2 rfl (by kernel_rfl) rfl (by kernel_rfl) (op_call (lb := #[]) 20 #[] rfl (by kernel_rfl) (fun _ _ => by kernel_rfl) (by kernel_rfl) ((lives16 _).mono ?_))
            rintro e W127 ⟨rfl, hb127⟩
            refine ⟨_, rfl, ?_⟩
            replace hB := Bl.next hB hb127
            replace k38_b11 := k38_b11.below hb127
            replace hI := hI.below hb127
            replace hJ := hJ.below hb127
            replace hA := hA.below hb127
            replace hR := hR.below hb127
            replace z1_ := own_below z1_ hb127
            replace z2_ := own_below z2_ hb127
            replace z3_ := own_below z3_ hb127
            replace z4_ := own_below z4_ hb127
            have hS128 : Below (W123).heap.size (W123) (W127) := Bl.next hS125 hb127
            refine ⟨hS128, ?_⟩
            refine h_str (Below (W127).heap.size (W127)) (fun V hV => Bl.next hS128 hV) ?_
            have hS129 : Below (W127).heap.size (W127) (W127) := Below.refl _ _
            refine h_pv [19, 20] 0 rfl #[true, true, true, true, true, true, true, true, true, true, true, true, true, true, true, true, true, true, true, true, true] [(185, .bool true), (8, .bool true)] (by kernel_rfl) (fun _ _ _ _ _ h => h) (by kernel_rfl) hS129 ?_
            refine h_done _ (by kernel_rfl) ?_
            refine wp_ret ?_
            exact g_ret (.bool true) (by kernel_rfl) (by kernel_rfl) ⟨rfl, hB⟩
theorem allocPlays_law (a : Option Addr) (c : Nat) (l : List UInt8) (f : Int) (aZ : Option Addr) (cZ : Nat) (Z : List Int) (aT : Option Addr) (cT : Nat) (T : List StT) (w : World) (h : Bys w (.slice a l.length c) l) (hZ : Sl w (.slice aZ Z.length cZ) Z.length (Z.map (Value.int .i64))) (hZc : aZ = none → cZ = 0) (hT : Sl w (.slice aT T.length cT) T.length (T.flatMap stC)) (hTb : ∀ i, i < T.length → Bys w (.slice (T.getD i stD).2.2.1 (T.getD i stD).2.2.2.2.length (T.getD i stD).2.2.2.1) (T.getD i stD).2.2.2.2) (hg : ErrT w) :
    Calls Tryz.prog 4 #[.slice a l.length c, .int .i64 f, .slice aZ Z.length cZ, .slice aT T.length cT] w (Ret (.bool true) w) := by
  rcases Nat.eq_zero_or_pos Z.length with h0 | h0
  · exact allocPlays_A a c l f aZ cZ Z aT cT T w h hZ hZc hT hTb hg h0
  · exact allocPlays_B a c l f aZ cZ Z aT cT T w h hZ hZc hT hTb hg h0
end Go.Proofs.YtbopakjiahojdaaGreatDoor

