/- Parts for plot.Meta with room. What Meta wrote is read back: the bits, the slots, the blocks. What was put as a node is read as that node: a plain law on lists of bytes. A scan of a packed tree: a plain law. A scan of a packed tree finds its entries: a plain law. Blocks written at other numbers before a tree or behind it: the same bytes. What plot.Data wrote, chart.Data reads back, plainly. Of law 23: made, lives. What plot.Meta wrote, chart.Meta reads back, plainly. plot.Meta with room. The statement ChartSelf, walked. -/
import Derived.Test.YthlakkdgcgkcdaaGreatMg5
namespace Go.Proofs.YthlakkdgcgkcdaaGreat
open Go.RowKit Go.Extern.Stop Go.Stop Go.Extern
set_option linter.unusedVariables false
attribute [local irreducible] wpList wpAnyH Code.wp Oper.wp Go

theorem alloc_AheadN (j : Nat) (B ba b g nn cc : Nat) (pa : Option Addr) (ca f N k0 : Nat) (bs : List UInt8) (w : World) (hC : AlC B ba nn cc ca f N) (hA : Al B ba b g nn cc pa ca f N k0 bs w) (hk : k0 ≤ N) (hN : N ≤ 1000000) (hj : j ≤ 1000000) (hjn : j ≤ N - k0) :
    Calls Tryz.prog 33 #[.pointer (some ⟨ba, 0, none⟩), .int .i64 (↑j : Int)] w (RetS (fun w' r => ∃ q c2, r = .slice q j c2 ∧ w'.ownsRow w.heap.size 3 1 (.slice q j c2) j ((((rngJ f N).drop k0).take j).map (Value.int .i64))) w) := by
  have h := alloc_Ahead B ba b pa N ca k0 j (rngJ f N) w ⟨hA.blkA, hA.nums, rngJ_len _ _, hC.hB, hN, hk⟩ hj
  rwa [Nat.min_eq_left hjn] at h
theorem tally_SplitN (n : Nat) (a : Option Addr) (c : Nat) (l : List Int) (w : World) (hn : l.length = n) (h : Sl w (.slice a n c) n (l.map (Value.int .i64))) (hl : n ≤ 65536) (hs : splitE l = 0) : Calls Tryz.prog 6 #[.slice a n c] w (fun e w' => ∃ pb cb gs po co, e = .returned (.tuple #[.slice pb (bmN n) cb, .slice po (overK l n).length co, .int .i64 0]) ∧ Below w.heap.size w w' ∧ Lists w' w.heap.size (.slice pb (bmN n) cb) gs (chunksI (smallL l) (bmN n)) ∧ w'.ownsRow w.heap.size 45 3 (.slice po (overK l n).length co) (overK l n).length ((overK l n).flatMap entC)) := by
  subst hn; exact tally_Split_ok a c l w h hl hs
theorem slots_PutN (n : Nat) (a : Option Addr) (c : Nat) (S : List (Nat × Nat × Nat)) (w : World) (hn : S.length = n) (hS : SlotsOk S) (h : Sts rsC w (.slice a S.length c) S) : Calls Tryz.prog 35 #[.slice a n c] w (RetS (fun w' r => ∃ p c, r = .tuple #[.slice p 244 c, .int .i64 0] ∧ w'.ownsRow w.heap.size 5 1 (.slice p 244 c) 244 ((idxB S).map bv)) w) := by
  subst hn; exact slots_Put a c S w hS h
end Go.Proofs.YthlakkdgcgkcdaaGreat
namespace Go.Proofs.YthlakkdgcgkcdaaGreat
open Go.RowKit Go.Extern.Stop Go.Stop Go.Extern
set_option linter.unusedVariables false
attribute [local irreducible] wpList wpAnyH Code.wp Oper.wp Go

theorem leB_get {n w i : Nat} (h : i < w) : (leB (n : Int) w).getD i 0 = UInt8.ofNat (n / 256 ^ i) := by simp [leB, byteAt, List.getD, List.getElem?_range h]
theorem rawN_leB {a b : List UInt8} {m w : Nat} (hm : m < 256 ^ w) : rawN (a ++ (leB (m : Int) w ++ b)) a.length w = m := by
  rw [rawN_bytes w a.length m (fun i hi => ?_), Nat.mod_eq_of_lt hm]
  rw [List.getD, List.getElem?_append_right (by omega), List.getElem?_append_left (by rw [leB_len]; omega), show a.length + i - a.length = i by omega]
  exact leB_get hi
/-- a slot's bytes, read -/
theorem slB_raws {x : Nat × Nat × Nat} (h1 : x.1 ≤ 14399) (h2 : x.2.1 ≤ 960) (h3 : x.2.2 ≤ 960) : rawsL slotP (slB x) = [x.1, x.2.1, x.2.2] := by
  have e0 : rawN (slB x) 0 8 = x.1 := by
    have h := rawN_leB (a := []) (b := leB (x.2.1 : Int) 4 ++ leB (x.2.2 : Int) 4) (m := x.1) (w := 8) (by omega)
    simpa [slB, List.append_assoc] using h
  have e1 : rawN (slB x) 8 4 = x.2.1 := by
    have h := rawN_leB (a := leB (x.1 : Int) 8) (b := leB (x.2.2 : Int) 4) (m := x.2.1) (w := 4) (by omega)
    rw [leB_len] at h
    simpa [slB, List.append_assoc] using h
  have e2 : rawN (slB x) 12 4 = x.2.2 := by
    have h := rawN_leB (a := leB (x.1 : Int) 8 ++ leB (x.2.1 : Int) 4) (b := []) (m := x.2.2) (w := 4) (by omega)
    rw [List.length_append, leB_len, leB_len] at h
    simpa [slB, List.append_assoc] using h
  show unpL (slB x) 0 [8, 4, 4] = _
  simp only [unpL]
  rw [e0, e1, e2]
theorem slB_ok {x : Nat × Nat × Nat} (h0 : 1 ≤ x.1) (h1 : x.1 ≤ 14399) (h2 : x.2.1 ≤ 960) (h3 : x.2.2 ≤ 960) : readE slotP (slB x) = 0 := by
  have hr : readOk slotP (slB x) = true := by
    unfold readOk
    rw [slB_raws h1 h2 h3, show slotP.length = 3 from rfl]
    unfold allIn
    rw [show List.range 3 = [0, 1, 2] from rfl]
    simp [inP, slotP]
    omega
  unfold readE
  rw [if_pos (by rw [slB_len]; rfl), if_pos hr]
theorem slB_val {x : Nat × Nat × Nat} (h0 : 1 ≤ x.1) (h1 : x.1 ≤ 14399) (h2 : x.2.1 ≤ 960) (h3 : x.2.2 ≤ 960) : readV slotP (slB x) = [x.1, x.2.1, x.2.2] := by
  unfold readV
  rw [if_pos (slB_ok h0 h1 h2 h3), slB_raws h1 h2 h3]
theorem idxP_pre (S : List (Nat × Nat × Nat)) (i : Nat) : ∀ k, ∃ t, idxP S (i + k) = idxP S i ++ t
  | 0 => ⟨[], by simp⟩
  | k + 1 => by
    obtain ⟨t, h⟩ := idxP_pre S i k
    exact ⟨t ++ slB (S.getD (i + k) rsD), by rw [← Nat.add_assoc, idxP_succ, h, List.append_assoc]⟩
theorem idxB_slot {S : List (Nat × Nat × Nat)} {i : Nat} (hi : i < S.length) : slotS (idxB S) i = slB (S.getD i rsD) := by
  obtain ⟨t, h⟩ := idxP_pre S (i + 1) (S.length - (i + 1))
  rw [show i + 1 + (S.length - (i + 1)) = S.length by omega, idxP_succ] at h
  unfold slotS idxB
  rw [h, List.append_assoc, List.append_assoc, List.drop_left' (idxP_len S i), List.take_left' (slB_len _)]
theorem idxB_cnt {S : List (Nat × Nat × Nat)} (h : S.length ≤ 15) : rawN (idxB S) 0 4 = S.length := by
  obtain ⟨t, ht⟩ := idxP_pre S 0 S.length
  rw [Nat.zero_add] at ht
  have h2 := rawN_leB (a := []) (b := t ++ List.replicate (244 - (4 + S.length * 16)) 0) (m := S.length) (w := 4) (by omega)
  unfold idxB
  rw [ht, show idxP S 0 = leB (S.length : Int) 4 from by simp [idxP], List.append_assoc]
  simpa using h2
theorem idxB_read {S : List (Nat × Nat × Nat)} (h : SlotsOk S) : idxE (idxB S) = 0 ∧ sltsL (idxB S) S.length = S := by
  have h15 := h.1
  have hv : ∀ i, i < S.length → readE slotP (slotS (idxB S) i) = 0 ∧ sltX (idxB S) i = S.getD i rsD := fun i hi => by
    obtain ⟨h0, h1, h2, h3⟩ := h.2 i hi
    constructor
    · rw [idxB_slot hi]; exact slB_ok h0 h1 h2 h3
    · unfold sltX slotK
      rw [idxB_slot hi, slB_val h0 h1 h2 h3]
      rfl
  have hz : zeroB ((idxB S).drop (4 + S.length * 16)) = true := by
    unfold idxB
    rw [List.drop_left' (idxP_len _ _)]
    exact zeroB_true fun j _ => zeros_get _ j
  have hs : ∀ n, n ≤ S.length → sltsE (idxB S) n = 0 := by
    intro n
    induction n with
    | zero => intro _; rfl
    | succ n ih => intro hn; exact sltsE_next (ih (by omega)) (hv n (by omega)).1
  constructor
  · unfold idxE idxOk
    rw [idxB_cnt (by omega), hz, decide_eq_true (by omega)]
    exact hs _ (Nat.le_refl _)
  · apply List.ext_getElem (by rw [sltsL_len])
    intro i h1 h2
    have := (hv i h2).2
    rw [show S.getD i rsD = S[i] from by simp [List.getD, h2]] at this
    simp [sltsL, this]
/-- a block of counts, read -/
theorem bitsB_cnt {l : List Int} (h : l.length ≤ 960) : rawN (bitsB l) 0 4 = l.length := by
  have h2 := rawN_leB (a := []) (b := (List.range 240).map (g4B l l.length)) (m := l.length) (w := 4) (by omega)
  simpa [bitsB, bitsT] using h2
theorem atI_all (l : List Int) (j : Nat) : atI l l.length j = l.getD j 0 := by
  unfold atI
  split
  · rfl
  · simp [List.getD, Nat.le_of_not_lt (by assumption)]
theorem bitsB_at {l : List Int} (h : Small l) {i : Nat} (hi : i < 960) : (bitN (bitsB l) i : Int) = l.getD i 0 := by
  unfold bitN
  rw [show (bitsB l).getD (4 + i / 4) 0 = g4B l l.length (i / 4) from bitsT_at l l.length (by omega)]
  have b0 := getI_bd h (4 * (i / 4))
  have b1 := getI_bd h (4 * (i / 4) + 1)
  have b2 := getI_bd h (4 * (i / 4) + 2)
  have b3 := getI_bd h (4 * (i / 4) + 3)
  unfold g4B g4
  rw [atI_all, atI_all, atI_all, atI_all, UInt8.toNat_ofNat']
  obtain e | e | e | e : i % 4 = 0 ∨ i % 4 = 1 ∨ i % 4 = 2 ∨ i % 4 = 3 := by omega
  · rw [show l.getD i 0 = l.getD (4 * (i / 4)) 0 by rw [show 4 * (i / 4) = i by omega], e, show 2 ^ (0 * 2) = 1 from rfl]; omega
  · rw [show l.getD i 0 = l.getD (4 * (i / 4) + 1) 0 by rw [show 4 * (i / 4) + 1 = i by omega], e, show 2 ^ (1 * 2) = 4 from rfl]; omega
  · rw [show l.getD i 0 = l.getD (4 * (i / 4) + 2) 0 by rw [show 4 * (i / 4) + 2 = i by omega], e, show 2 ^ (2 * 2) = 16 from rfl]; omega
  · rw [show l.getD i 0 = l.getD (4 * (i / 4) + 3) 0 by rw [show 4 * (i / 4) + 3 = i by omega], e, show 2 ^ (3 * 2) = 64 from rfl]; omega
theorem bitsB_ok {l : List Int} (h : Small l) (hl : l.length ≤ 960) : bitsOkB (bitsB l) = true := by
  rw [bitsOkB_iff]
  refine ⟨bitsT_len _ _, by rw [bitsB_cnt hl]; exact hl, fun i hi hc => ?_⟩
  rw [bitsB_cnt hl] at hc
  have := bitsB_at h hi
  rw [show l.getD i 0 = 0 from by simp [List.getD, hc]] at this
  omega
theorem putB_ge (l x : List UInt8) (k : Nat) : l.length ≤ (putB l k x).length := by simp [putB]; omega
theorem cntsB_ge (L : List (List Int)) (q : Nat) (bs : List UInt8) : ∀ i, bs.length ≤ (cntsB L q bs i).length
  | 0 => Nat.le_refl _
  | i + 1 => Nat.le_trans (cntsB_ge L q bs i) (putB_ge _ _ _)
/-- a block of counts laid is there -/
theorem cntsB_blk {L : List (List Int)} {q m : Nat} {bs : List UInt8} : ∀ {n i : Nat}, (cntsB L q bs n).length / 256 = m → bs.length / 256 = m → q + n ≤ m → i < n → blkB (cntsB L q bs n) (q + i) = sealB 3 ((q + i : Nat) : Int) (bitsB (L.getD i []))
  | 0, i, _, _, _, hi => absurd hi (by omega)
  | n + 1, i, h, hb, hm, hi => by
    have h1 := cntsB_ge L q bs n
    have h2 := putB_ge (cntsB L q bs n) (sealB 3 ((q + n : Nat) : Int) (bitsB (L.getD n []))) ((q + n) * 256)
    have h0 : (cntsB L q bs n).length / 256 = m := by
      have h3 : (putB (cntsB L q bs n) ((q + n) * 256) (sealB 3 ((q + n : Nat) : Int) (bitsB (L.getD n [])))).length / 256 = m := h
      have h4 := Nat.div_le_div_right (c := 256) h1
      have h5 := Nat.div_le_div_right (c := 256) h2
      omega
    have hx : (sealB 3 ((q + n : Nat) : Int) (bitsB (L.getD n []))).length = 256 := sealB_len (by unfold bitsB; rw [bitsT_len]; decide)
    show blkB (putB (cntsB L q bs n) ((q + n) * 256) (sealB 3 ((q + n : Nat) : Int) (bitsB (L.getD n [])))) (q + i) = _
    by_cases e : i = n
    · subst e; exact blkB_put hx (by omega)
    · rw [blkB_put_other hx (by omega) (by omega) (by omega)]
      exact cntsB_blk h0 hb (by omega) (by omega)
theorem seal_in {l : List UInt8} {kind : Int} {k : Nat} {li : List UInt8} (h1 : 1 ≤ kind) (h2 : kind ≤ 4) (hk : k < l.length / 256) (h4 : k < 14400) (hli : li.length = 244) (hb : blkB l k = sealB kind (k : Int) li) : inE l kind (k : Int) = 0 ∧ inB l (k : Int) = li := by
  constructor
  · rw [inE_in rfl rfl hk, hb]; exact open_seal h1 h2 (by omega) (by omega) (by omega)
  · rw [inB_in rfl, hb, in_seal (by omega)]; unfold inSeal; rw [hli, Nat.sub_self]; simp
end Go.Proofs.YthlakkdgcgkcdaaGreat
namespace Go.Proofs.YthlakkdgcgkcdaaGreat
open Go.RowKit Go.Extern.Stop Go.Stop Go.Extern
set_option linter.unusedVariables false
attribute [local irreducible] wpList wpAnyH Code.wp Oper.wp Go

theorem getD_app {P Q : List UInt8} {k i : Nat} (hk : P.length = k) : (P ++ Q).getD (k + i) 0 = Q.getD i 0 := by
  subst hk
  simp [List.getD, List.getElem?_append_right]
theorem getD_hd {P Q : List UInt8} {i : Nat} (hi : i < P.length) : (P ++ Q).getD i 0 = P.getD i 0 := by
  simp [List.getD, List.getElem?_append_left hi]
theorem rawN_mid {P Q : List UInt8} {k w : Nat} {x : Int} (hk : P.length = k) (h0 : 0 ≤ x) (hb : x.toNat < 256 ^ w) : (rawN (P ++ (leB x w ++ Q)) k w : Int) = x := by
  rw [rawN_bytes w k x.toNat, Nat.mod_eq_of_lt hb]
  · omega
  · intro i hi
    rw [getD_app hk, getD_hd (by rw [leB_len]; exact hi)]
    simp [leB, byteAt, List.getD, List.getElem?_range hi]
theorem drop_app {P Q : List UInt8} {k : Nat} (hk : P.length = k) : (P ++ Q).drop k = Q := List.drop_left' hk
theorem zeroB_rep (n m : Nat) : zeroB ((List.replicate n (0 : UInt8)).take m) = true := by
  unfold zeroB; rw [List.all_eq_true]
  intro x hx
  have := List.mem_of_mem_take hx
  rw [(List.mem_replicate.1 this).2]; rfl
theorem keyPad_more (K : List Int) (n j : Nat) : ∀ d, ∃ X, keyPad K n (j + d) = keyPad K n j ++ X
  | 0 => ⟨[], by simp⟩
  | d + 1 => by
    obtain ⟨X, hX⟩ := keyPad_more K n j d
    exact ⟨_, by rw [← Nat.add_assoc, keyPad_succ, hX, List.append_assoc]⟩
theorem valPad_more (Vs : List (List UInt8)) (j : Nat) : ∀ d, ∃ X, valPad Vs (j + d) = valPad Vs j ++ X
  | 0 => ⟨[], by simp⟩
  | d + 1 => by
    obtain ⟨X, hX⟩ := valPad_more Vs j d
    exact ⟨_, by rw [← Nat.add_assoc, valPad_succ, hX, List.append_assoc]⟩
theorem keysErr_zero {l : List UInt8} : ∀ {n : Nat}, (∀ i, i < n → keyE l i = 0) → keysErr l n = 0
  | 0, _ => rfl
  | n + 1, h => keysErr_next (keysErr_zero fun i hi => h i (by omega)) (h n (by omega))
theorem getD_ext {l l' : List Int} (h : l.length = l'.length) (h2 : ∀ j, j < l.length → l.getD j 0 = l'.getD j 0) : l = l' := by
  apply List.ext_getElem h
  intro j h3 h4
  have := h2 j h3
  simpa [List.getD, h3, h4] using this
theorem getD_extV {l l' : List (List UInt8)} (h : l.length = l'.length) (h2 : ∀ j, j < l.length → l.getD j [] = l'.getD j []) : l = l' := by
  apply List.ext_getElem h
  intro j h3 h4
  have := h2 j h3
  simpa [List.getD, h3, h4] using this
/-- a node's bytes are read as that node -/
structure NodBack (b : List UInt8) (t : Int) (leaf : Bool) (n m v : Nat) (K : List Int) (Vs : List (List UInt8)) : Prop where
  len : b.length = 244
  e : nodeE b = 0
  t : nodT b = t
  l : nodL b = leaf
  c : nodC b = n
  k : keysI b n = K
  v : valsL b n = Vs
theorem nod_back {t : Int} {leaf : Bool} {n m v : Nat} {K : List Int} {Vs : List (List UInt8)} (N : NodeOk t leaf n m v K Vs) : NodBack (nodeP m v (headB t leaf n m v) K Vs n) t leaf n m v K Vs := by
  have hmb := maxN_pos t leaf
  rw [N.hm] at hmb
  have hwb := widN_bd t leaf
  rw [N.hv] at hwb
  have hfit := fitN t leaf
  rw [N.hm, N.hv] at hfit
  have ht1 := N.ht1
  have ht2 := N.ht2
  have hnm := N.hn
  have hform := nodeP_form (H := headB t leaf n m v) (K := K) (Vs := Vs) (headB_len _ _ _ _ _) hfit hnm (fun j hj => N.hw j hj)
  have hlen := nodeP_len (H := headB t leaf n m v) (K := K) (Vs := Vs) (headB_len _ _ _ _ _) hfit hnm (fun j hj => N.hw j hj)
  generalize nodeP m v (headB t leaf n m v) K Vs n = b at hform hlen
  obtain ⟨R, hR⟩ : ∃ R, b = headB t leaf n m v ++ R := ⟨_, by rw [hform, List.append_assoc, List.append_assoc]⟩
  have hfl := flagN_bd leaf
  have r0 : (rawN b 0 1 : Int) = flagN leaf := by
    rw [hR, headB]; simp only [List.append_assoc]
    exact rawN_mid (P := []) (k := 0) (w := 1) (x := flagN leaf) rfl hfl.1 (Nat.lt_of_le_of_lt (show (flagN leaf).toNat ≤ 255 by omega) (by decide))
  have r1 : (rawN b 1 1 : Int) = t := by
    rw [hR, headB]; simp only [List.append_assoc]
    exact rawN_mid (P := leB (flagN leaf) 1) (by rw [leB_len]) (by omega) (by omega)
  have r2 : (rawN b 2 2 : Int) = (n : Int) := by
    rw [hR, headB]; simp only [List.append_assoc]
    rw [← List.append_assoc]
    exact rawN_mid (P := leB (flagN leaf) 1 ++ leB t 1) (by simp [leB_len]) (by omega) (by omega)
  have r4 : (rawN b 4 2 : Int) = (v : Int) := by
    rw [hR, headB]; simp only [List.append_assoc]
    rw [← List.append_assoc, ← List.append_assoc]
    exact rawN_mid (P := leB (flagN leaf) 1 ++ leB t 1 ++ leB (n : Int) 2) (by simp [leB_len]) (by omega) (by omega)
  have r6 : (rawN b 6 2 : Int) = (m : Int) := by
    rw [hR, headB]; simp only [List.append_assoc]
    rw [← List.append_assoc, ← List.append_assoc, ← List.append_assoc]
    exact rawN_mid (P := leB (flagN leaf) 1 ++ leB t 1 ++ leB (n : Int) 2 ++ leB (v : Int) 2) (by simp [leB_len]) (by omega) (by omega)
  have r8 : (rawN b 8 4 : Int) = 0 := by
    rw [hR, headB]; simp only [List.append_assoc]
    rw [← List.append_assoc, ← List.append_assoc, ← List.append_assoc, ← List.append_assoc]
    exact rawN_mid (P := leB (flagN leaf) 1 ++ leB t 1 ++ leB (n : Int) 2 ++ leB (v : Int) 2 ++ leB (m : Int) 2) (by simp [leB_len]) (by omega) (by decide)
  have eT : nodT b = t := r1
  have eL : nodL b = leaf := by
    unfold nodL; rw [r0]; cases leaf <;> rfl
  have eC : nodC b = n := by unfold nodC; omega
  have eW : nodW b = v := by unfold nodW; rw [eT, eL, widG, if_pos ⟨ht1, ht2⟩]; exact N.hv
  have eM : nodM b = m := by unfold nodM; rw [eT, eL, maxG, if_pos ⟨ht1, ht2⟩]; exact N.hm
  have hkey : ∀ i, i < n → (keyN b i : Int) = K.getD i 0 := by
    intro i hi
    obtain ⟨X, hX⟩ := keyPad_more K n (i + 1) (m - (i + 1))
    rw [show i + 1 + (m - (i + 1)) = m by omega, keyPad_succ, if_pos hi] at hX
    unfold keyN
    rw [hform, hX]
    have hk := N.hk0 i hi
    have := rawN_mid (P := headB t leaf n m v ++ keyPad K n i) (Q := X ++ (valPad Vs n ++ List.replicate (232 - m * 8 - n * v) 0)) (k := 12 + i * 8) (w := 8) (x := K.getD i 0) (by rw [List.length_append, headB_len, keyPad_len]) hk.1 (Nat.lt_of_le_of_lt (show (K.getD i 0).toNat ≤ 281474976710655 by omega) (by decide))
    simp only [List.append_assoc] at this ⊢
    exact this
  have hval : ∀ i, i < n → valN b i = Vs.getD i [] := by
    intro i hi
    obtain ⟨X, hX⟩ := valPad_more Vs (i + 1) (n - (i + 1))
    rw [show i + 1 + (n - (i + 1)) = n by omega, valPad_succ] at hX
    have hvl : (valPad Vs i).length = i * v := valPad_len fun j hj => N.hw j (by omega)
    unfold valN
    rw [eM, eW, hform, hX]
    have := drop_app (P := headB t leaf n m v ++ keyPad K n m ++ valPad Vs i) (Q := Vs.getD i [] ++ (X ++ List.replicate (232 - m * 8 - n * v) 0)) (k := 12 + m * 8 + i * v) (by rw [List.length_append, List.length_append, headB_len, keyPad_len, hvl])
    simp only [List.append_assoc] at this ⊢
    rw [this]
    exact List.take_left' (N.hw i hi)
  have hmv : n * v ≤ m * v := Nat.mul_le_mul_right v hnm
  refine ⟨hlen, ?_, eT, eL, eC, ?_, ?_⟩
  · have hs : shapeB b = true := by
      unfold shapeB
      rw [eW, eM]
      refine decide_eq_true ⟨?_, by omega, by omega, by omega, by omega, by omega, ?_⟩
      · cases leaf <;> simp only [flagN] at r0 <;> simp at r0 <;> omega
      · cases leaf with
        | true => left; simp only [flagN] at r0; simp at r0; omega
        | false => right; have := N.hl rfl; omega
    have hz : nodeZ b = true := by
      unfold nodeZ node2 node1 node0
      rw [eC, eM, eW, Bool.and_eq_true]
      constructor
      · have hk := keyPad_zero K n (m - n)
        rw [show n + (m - n) = m by omega] at hk
        have := drop_app (P := headB t leaf n m v ++ keyPad K n n) (Q := List.replicate ((m - n) * 8) 0 ++ (valPad Vs n ++ List.replicate (232 - m * 8 - n * v) 0)) (k := 12 + n * 8) (by rw [List.length_append, headB_len, keyPad_len])
        rw [hform, hk]
        simp only [List.append_assoc] at this ⊢
        rw [this, List.take_append_of_le_length (by rw [List.length_replicate]; omega)]
        exact zeroB_rep _ _
      · have hvl : (valPad Vs n).length = n * v := valPad_len fun j hj => N.hw j hj
        have := drop_app (P := headB t leaf n m v ++ keyPad K n m ++ valPad Vs n) (Q := List.replicate (232 - m * 8 - n * v) 0) (k := 12 + m * 8 + n * v) (by rw [List.length_append, List.length_append, headB_len, keyPad_len, hvl])
        rw [hform, this]
        exact zeroB_rep _ _
    unfold nodeE
    rw [if_pos hs, if_pos hz, eC]
    refine keysErr_zero fun i hi => ?_
    have h1 := hkey i hi
    have h2 := N.hk0 i hi
    unfold keyE
    rw [if_neg (by omega), if_neg ?_]
    rintro ⟨h3, h4⟩
    have h5 := hkey (i - 1) (by omega)
    have h6 := N.hk1 (i - 1) (by omega)
    rw [show i - 1 + 1 = i by omega] at h6
    omega
  · exact getD_ext (by rw [keysI_len, N.hK]) fun j hj => by rw [keysI_len] at hj; rw [keysI_get b hj]; exact hkey j hj
  · exact getD_extV (by rw [valsL_len, N.hV]) fun j hj => by rw [valsL_len] at hj; rw [valsL_get b hj]; exact hval j hj
/-- and so in the block where it was written -/
theorem blk_back {t : Int} {leaf : Bool} {n m v : Nat} {K : List Int} {Vs : List (List UInt8)} (N : NodeOk t leaf n m v K Vs) {l : List UInt8} {j len : Nat} (hl : l.length = len) (hj : j < len / 256) (h4 : j < 14400) (hb : blkB l j = sealB 2 (j : Int) (nodeP m v (headB t leaf n m v) K Vs n)) (tree : Int) (ht : tree = 0 ∨ t = tree) :
    nodeErr l (j : Int) tree = 0 ∧ inB l (j : Int) = nodeP m v (headB t leaf n m v) K Vs n := by
  have B := nod_back N
  have hin : inB l (j : Int) = nodeP m v (headB t leaf n m v) K Vs n := by
    rw [inB_in (no := (j : Int)) (j := j) rfl, hb, in_seal (by rw [B.len]; decide)]
    unfold inSeal; rw [B.len]; simp
  refine ⟨?_, hin⟩
  unfold nodeErr
  rw [inE_in (no := (j : Int)) (j := j) hl rfl hj, hb, if_pos (open_seal (by decide) (by decide) (by omega) (by omega) (by rw [B.len]; decide)), hin]
  unfold nodeTE
  rw [if_pos B.e, if_pos (by rw [B.t]; exact ht)]
theorem root_leB {q : Nat} (h1 : 1 ≤ q) (h2 : q ≤ 14399) : rootE (leB (q : Int) 4) = 0 ∧ (rootN (leB (q : Int) 4) : Int) = (q : Int) := by
  have hr : (rawN (leB (q : Int) 4) 0 4 : Int) = (q : Int) := by
    have := rawN_mid (P := []) (Q := []) (k := 0) (w := 4) (x := (q : Int)) rfl (by omega) (Nat.lt_of_le_of_lt (show (q : Int).toNat ≤ 14399 by omega) (by decide))
    simpa using this
  have he : rootE (leB (q : Int) 4) = 0 := by
    unfold rootE; rw [if_pos (leB_len _ _), if_pos (by omega)]
  exact ⟨he, by unfold rootN; rw [if_pos he]; exact hr⟩
end Go.Proofs.YthlakkdgcgkcdaaGreat
namespace Go.Proofs.YthlakkdgcgkcdaaGreat
open Go.RowKit Go.Extern.Stop Go.Stop Go.Extern
set_option linter.unusedVariables false
attribute [local irreducible] wpList wpAnyH Code.wp Oper.wp Go

def kvE (x : Ent) : Int × List UInt8 := (x.1, x.2.1)
/-- the blocks of a level stand -/
def LaidF (F : List UInt8) (t : Int) (leaf : Bool) (m v : Nat) (u : List Ent) (q : Nat) : Prop :=
  ∀ i, i < ovN u.length m → blkB F (q + i) = sealB 2 ((q + i : Nat) : Int) (nodB t leaf m v (chunkE u m i))
theorem levB_succ {t : Int} {leaf : Bool} {m v : Nat} {l : List Ent} {q : Nat} {bs : List UInt8} (j : Nat) : levB t leaf m v l q bs (j + 1) = putB (levB t leaf m v l q bs j) ((q + j) * 256) (sealB 2 ((q + j : Nat) : Int) (nodB t leaf m v (chunkE l m j))) := rfl
set_option maxRecDepth 100000 in
theorem levB_laid {t : Int} {leaf : Bool} {m v : Nat} {l : List Ent} {q : Nat} {bs : List UInt8} (E : EntsOk v l) (h1 : 1 ≤ t) (h2 : t ≤ 5) (hm : maxN t leaf = m) (hv : widN t leaf = v) (hl : leaf = false → 1 ≤ l.length) (j : Nat) :
    j ≤ ovN l.length m → (q + j) * 256 ≤ bs.length → (levB t leaf m v l q bs j).length = bs.length ∧ (∀ i, i < j → blkB (levB t leaf m v l q bs j) (q + i) = sealB 2 ((q + i : Nat) : Int) (nodB t leaf m v (chunkE l m i))) ∧ (∀ x, x < q → blkB (levB t leaf m v l q bs j) x = blkB bs x) := by
  induction j with
  | zero => exact fun _ _ => ⟨rfl, fun i hi => absurd hi (Nat.not_lt_zero i), fun x _ => rfl⟩
  | succ j ih =>
    intro hj hq
    obtain ⟨a1, a2, a3⟩ := ih (by omega) (by omega)
    have hlen := nodB_len (chunk_ok E h1 h2 hm hv hl (show j < ovN l.length m by omega))
    have hsl : (sealB 2 ((q + j : Nat) : Int) (nodB t leaf m v (chunkE l m j))).length = 256 := sealB_len (by rw [hlen]; decide)
    rw [levB_succ]
    generalize levB t leaf m v l q bs j = y at a1 a2 a3 ⊢
    generalize hx : sealB 2 ((q + j : Nat) : Int) (nodB t leaf m v (chunkE l m j)) = x at hsl ⊢
    have hk : q + j < y.length / 256 := by rw [a1]; omega
    refine ⟨?_, fun i hi => ?_, fun z hz => ?_⟩
    · rw [putB_len (by rw [hsl, a1]; omega), a1]
    · by_cases e : i = j
      · subst e; rw [hx]; exact blkB_put hsl hk
      · rw [blkB_put_other hsl hk (by omega) (by omega)]; exact a2 i (by omega)
    · rw [blkB_put_other hsl hk (by omega) (by omega)]; exact a3 z hz
set_option maxRecDepth 100000 in
theorem treeUp_keep {t : Int} (h1 : 1 ≤ t) (h2 : t ≤ 5) (n : Nat) : ∀ (u : List Ent) (q : Nat) (bs : List UInt8), u.length = n → 1 ≤ n → EntsOk 4 u → (q + ((levs n).sum - n)) * 256 ≤ bs.length → (treeUp t u q bs).2.length = bs.length ∧ ∀ x, x < q → blkB (treeUp t u q bs).2 x = blkB bs x := by
  induction n using Nat.strongRecOn with
  | _ n ih =>
    intro u q bs hn h1n E hq
    subst hn
    by_cases h : u.length ≤ 1
    · rw [treeUp_one h]; exact ⟨rfl, fun _ _ => rfl⟩
    · have h18 := ov18 (x := u.length) (by omega)
      have hp := ovN_pos u.length 18
      have hlm : (levs u.length).sum = u.length + (levs (ovN u.length 18)).sum := by rw [levs_more h]; rfl
      have hg := levs_ge (ovN u.length 18)
      rw [treeUp_more h]
      obtain ⟨a1, a2, a3⟩ := levB_laid (t := t) (leaf := false) (m := 18) (v := 4) (l := u) (q := q) (bs := bs) E h1 h2 rfl rfl (fun _ => by omega) (ovN u.length 18) (Nat.le_refl _) (by omega)
      obtain ⟨b1, b2⟩ := ih (ovN u.length 18) (by omega) (upE u 18 q (ovN u.length 18)) (q + ovN u.length 18) (levB t false 18 4 u q bs (ovN u.length 18)) (upE_len _ _ _ _) hp (up_ok E (by decide)) (by rw [a1]; omega)
      exact ⟨by rw [b1, a1], fun x hx => by rw [b2 x (by omega), a3 x hx]⟩
theorem nodeok_sort {t : Int} {leaf : Bool} {n m v : Nat} {K : List Int} {Vs : List (List UInt8)} (N : NodeOk t leaf n m v K Vs) : SortP K := by
  intro k hk hk1
  rw [N.hK] at hk
  have := N.hk1 (k - 1) (by omega)
  rw [show k - 1 + 1 = k by omega] at this
  simpa [List.getD] using this
theorem look_ok {F : List UInt8} {way : List Int} {no t lo hi deep : Int} (hw : way.length < 16) (hway : ∀ y ∈ way, no ≠ y) (he : nodeErr F no t = 0) (hr : rightB lo hi = true) (hs : SortP (nodK F no)) (hk : ∀ x ∈ nodK F no, lo ≤ x ∧ x < hi)
    (hd : nodL (inB F no) = true → deep = 0 ∨ deep = ((way.length + 1 : Nat) : Int)) : lookE F way no t lo hi deep = 0 := by
  have hf : fitsI lo hi (nodK F no) = 0 := by unfold fitsI; rw [if_pos hr, if_pos hs, if_pos hk]
  have hh : hasI way no = false := by
    unfold hasI; rw [List.any_eq_false]
    intro y hy
    simpa using hway y hy
  unfold lookE
  rw [if_neg (by rw [hh]; simp), if_neg (by omega), if_neg (by rw [he]; simp)]
  unfold nodK at hf
  rw [if_neg (by rw [hf]; simp), if_neg (by rintro ⟨a, b, c⟩; rcases hd a with h | h; exact b h; exact c h)]
/-- the visits of a level's nodes: what stands below each, and how many nodes -/
structure Lev (F : List UInt8) (t fuel : Int) (h n base : Nat) (X : Nat → List (Int × List UInt8)) (C : Nat → Nat) : Prop where
  one : ∀ i, i < n → 1 ≤ C i
  go : ∀ i, i < n → ∀ (d : Nat) (way : List Int) (lo hi : Int) (s : WS), h + 1 ≤ d → way.length + h + 1 ≤ 16 → (∀ y ∈ way, ((base + n : Nat) : Int) ≤ y) → rightB lo hi = true → (∀ x ∈ X i, lo ≤ x.1 ∧ x.1 < hi) → s.dry = false → ((s.looked + C i : Nat) : Int) ≤ fuel → (s.deep = 0 ∨ s.deep = ((way.length + h + 1 : Nat) : Int)) →
    ∃ (es : List Ent) (bl : List Int), es.map kvE = X i ∧ bl.length = C i ∧ visitF F t fuel d way ((base + i : Nat) : Int) lo hi s = { s with es := s.es ++ es, bs := s.bs ++ bl, deep := ((way.length + h + 1 : Nat) : Int), looked := s.looked + C i }
theorem leaf_kv {c : List Ent} {no : Int} : (leafL (keysE c) (valsE c) no c.length).map kvE = c.map kvE := by
  unfold leafL
  apply List.ext_getElem?
  intro j
  by_cases h : j < c.length
  · simp [keysE, valsE, kvE, List.getD, h]
  · rw [List.getElem?_eq_none (by simp; omega), List.getElem?_eq_none (by simp; omega)]
set_option maxRecDepth 100000 in
theorem lev_leaf {F : List UInt8} {t fuel : Int} {l : List Ent} {base len m v : Nat} (hm : maxN t true = m) (hv : widN t true = v) (E : EntsOk v l) (h1 : 1 ≤ t) (h2 : t ≤ 5) (hF : LaidF F t true m v l base) (hl : F.length = len) (hb : (base + ovN l.length m) * 256 ≤ len) (h4 : base + ovN l.length m ≤ 14400) :
    Lev F t fuel 0 (ovN l.length m) base (fun i => (chunkE l m i).map kvE) (fun _ => 1) where
  one _ _ := Nat.le_refl _
  go i hi d way lo hi' s hd hw hway hr hX hdry hfu hdeep := by
    obtain ⟨d', rfl⟩ : ∃ d', d = d' + 1 := ⟨d - 1, by omega⟩
    have N := chunk_ok E h1 h2 hm hv (fun h => by cases h) hi
    have B := nod_back N
    obtain ⟨he, hin⟩ := blk_back N hl (by omega) (by omega) (hF i hi) t (.inr rfl)
    have hC : nodC (inB F ((base + i : Nat) : Int)) = (chunkE l m i).length := by rw [hin]; exact B.c
    have hK : nodK F ((base + i : Nat) : Int) = keysE (chunkE l m i) := by unfold nodK; rw [hC, hin]; exact B.k
    have hV : nodV F ((base + i : Nat) : Int) = valsE (chunkE l m i) := by unfold nodV; rw [hC, hin]; exact B.v
    have hL : nodL (inB F ((base + i : Nat) : Int)) = true := by rw [hin]; exact B.l
    have hk : ∀ x ∈ keysE (chunkE l m i), lo ≤ x ∧ x < hi' := by
      intro x hx
      obtain ⟨y, hy, rfl⟩ := List.mem_map.1 hx
      exact hX (kvE y) (List.mem_map.2 ⟨y, hy, rfl⟩)
    have hlook : lookE F way ((base + i : Nat) : Int) t lo hi' s.deep = 0 := look_ok (by omega) (fun y hy => by have := hway y hy; omega) he hr (by rw [hK]; exact nodeok_sort N) (by rw [hK]; exact hk) fun _ => hdeep
    refine ⟨leafL (keysE (chunkE l m i)) (valsE (chunkE l m i)) ((base + i : Nat) : Int) (chunkE l m i).length, [((base + i : Nat) : Int)], leaf_kv, rfl, ?_⟩
    unfold visitF
    rw [if_neg (by omega), if_neg (by rw [hlook]; simp), if_pos hL, hC, hK, hV]
theorem sum_rng_le {f : Nat → Nat} {a b : Nat} (h : a ≤ b) : ((List.range a).map f).sum ≤ ((List.range b).map f).sum := by
  obtain ⟨d, rfl⟩ : ∃ d, b = a + d := ⟨b - a, by omega⟩
  rw [List.range_add, List.map_append, List.sum_append]; omega
theorem part_snd {hi : Int} {K : List Int} {k : Nat} (hk : k < K.length) : (k + 1 < K.length ∧ (partAt hi K k).2 = K.getD (k + 1) 0) ∨ (k + 1 = K.length ∧ (partAt hi K k).2 = hi) := by
  by_cases q : k + 1 < K.length
  · left; exact ⟨q, by simp [partAt, List.getD, q]⟩
  · right; exact ⟨by omega, by simp only [partAt]; rw [List.getElem?_eq_none (by omega)]; rfl⟩
set_option maxRecDepth 100000 in
set_option maxHeartbeats 1000000 in
theorem lev_loop {F : List UInt8} {t fuel : Int} {h n base : Nat} {X : Nat → List (Int × List UInt8)} {C : Nat → Nat} (L : Lev F t fuel h n base X C) {way : List Int} {no hi' : Int} {s0 : WS} {z a d' : Nat} (K : List Int) (hK : nodK F no = K) (hKl : K.length = z) (hidx : a + z ≤ n)
    (hval : ∀ k, k < z → (nodV F no).getD k [] = leB ((base + (a + k) : Nat) : Int) 4) (hkk : ∀ k, k < z → ∃ v r, X (a + k) = (K.getD k 0, v) :: r) (hs : ∀ a b, a < b → b < n → ∀ x ∈ X a, ∀ y ∈ X b, x.1 < y.1) (hs1 : ∀ a, a < n → (X a).Pairwise fun x y => x.1 < y.1)
    (hk0 : ∀ k, k < z → 0 ≤ K.getD k 0 ∧ K.getD k 0 < hi') (hk1 : ∀ k, k + 1 < z → K.getD k 0 < K.getD (k + 1) 0) (hX2 : ∀ k, k < z → ∀ x ∈ X (a + k), x.1 < hi') (hhi : hi' ≤ 281474976710656) (hb1 : 1 ≤ base) (h4 : base + n ≤ 14400) (hd : h + 1 ≤ d') (hw : way.length + 1 + h + 1 ≤ 16) (hway : ∀ y ∈ way, ((base + n : Nat) : Int) ≤ y) (hno : ((base + n : Nat) : Int) ≤ no)
    (hdry : s0.dry = false) (hdeep : s0.deep = 0 ∨ s0.deep = ((way.length + (h + 1) + 1 : Nat) : Int)) (hfu : ((s0.looked + ((List.range z).map fun j => C (a + j)).sum : Nat) : Int) ≤ fuel) (k : Nat) :
    k ≤ z → ∃ (es : List Ent) (bl : List Int), es.map kvE = ((List.range k).flatMap fun j => X (a + j)) ∧ bl.length = ((List.range k).map fun j => C (a + j)).sum ∧
        loopW (visitF F t fuel d') F way no hi' k s0 = { s0 with es := s0.es ++ es, bs := s0.bs ++ bl, deep := if k = 0 then s0.deep else ((way.length + (h + 1) + 1 : Nat) : Int), looked := s0.looked + ((List.range k).map fun j => C (a + j)).sum } := by
  induction k with
  | zero => exact fun _ => ⟨[], [], rfl, rfl, by simp [loopW]⟩
  | succ k ih =>
    intro hk1z
    obtain ⟨es, bl, e1, e2, e3⟩ := ih (by omega)
    have hkl : k < z := by omega
    obtain ⟨r1, r2⟩ := root_leB (q := base + (a + k)) (by omega) (by omega)
    have hp1 : (partAt hi' (nodK F no) k).1 = K.getD k 0 := by rw [hK]; rfl
    have hp2 := part_snd (hi := hi') (K := K) (k := k) (by omega)
    rw [← hK] at hp2
    have hx1 : ∀ x ∈ X (a + k), K.getD k 0 ≤ x.1 := by
      intro x hx
      obtain ⟨v, r, hv⟩ := hkk k hkl
      have hpw := hs1 (a + k) (by omega)
      rw [hv] at hx hpw
      rcases List.mem_cons.1 hx with rfl | hx
      · exact Int.le_refl _
      · exact Int.le_of_lt ((List.pairwise_cons.1 hpw).1 x hx)
    have hx2 : ∀ x ∈ X (a + k), x.1 < (partAt hi' (nodK F no) k).2 := by
      intro x hx
      rcases hp2 with ⟨q1, q2⟩ | ⟨q1, q2⟩
      · rw [hK] at q1
        obtain ⟨v, r, hv⟩ := hkk (k + 1) (by omega)
        rw [q2, hK]
        exact hs (a + k) (a + (k + 1)) (by omega) (by omega) x hx (K.getD (k + 1) 0, v) (by rw [hv]; exact List.mem_cons_self)
      · rw [q2]; exact hX2 k hkl x hx
    have hr2 : rightB (partAt hi' (nodK F no) k).1 (partAt hi' (nodK F no) k).2 = true := by
      have g0 := hk0 k hkl
      refine decide_eq_true ?_
      rw [hp1]
      rcases hp2 with ⟨q1, q2⟩ | ⟨q1, q2⟩
      · rw [hK] at q1
        rw [q2, hK]
        have g1 := hk1 k (by omega)
        have g2 := hk0 (k + 1) (by omega)
        omega
      · rw [q2]; omega
    have hsum := sum_rng_le (f := fun j => C (a + j)) (show k + 1 ≤ z from hk1z)
    have hsucc : ((List.range (k + 1)).map fun j => C (a + j)).sum = ((List.range k).map fun j => C (a + j)).sum + C (a + k) := by rw [List.range_succ, List.map_append, List.sum_append]; simp
    rw [hsucc] at hsum
    have hfk : ((s0.looked + ((List.range k).map fun j => C (a + j)).sum + C (a + k) : Nat) : Int) ≤ fuel := by omega
    have hwl : (way ++ [no]).length = way.length + 1 := by simp
    obtain ⟨es2, bl2, g1, g2, g3⟩ := L.go (a + k) (by omega) d' (way ++ [no]) (partAt hi' (nodK F no) k).1 (partAt hi' (nodK F no) k).2 { s0 with es := s0.es ++ es, bs := s0.bs ++ bl, deep := if k = 0 then s0.deep else ((way.length + (h + 1) + 1 : Nat) : Int), looked := s0.looked + ((List.range k).map fun j => C (a + j)).sum } hd (by rw [hwl]; omega) (by
        intro y hy
        rcases List.mem_append.1 hy with q | q
        · exact hway y q
        · rw [List.mem_singleton.1 q]; exact hno) hr2 (fun x hx => ⟨by rw [hp1]; exact hx1 x hx, hx2 x hx⟩) hdry hfk (by
        rw [hwl, show way.length + 1 + h + 1 = way.length + (h + 1) + 1 by omega]
        by_cases q : k = 0
        · rcases hdeep with d | d
          · exact .inl (by show (if k = 0 then s0.deep else _) = 0; rw [if_pos q]; exact d)
          · exact .inr (by show (if k = 0 then s0.deep else _) = _; rw [if_pos q]; exact d)
        · exact .inr (by show (if k = 0 then s0.deep else _) = _; rw [if_neg q]))
    refine ⟨es ++ es2, bl ++ bl2, ?_, ?_, ?_⟩
    · rw [List.map_append, e1, g1, List.range_succ, List.flatMap_append]; simp
    · rw [List.length_append, e2, g2, hsucc]
    · rw [loopW_succ, e3]
      unfold roundW
      rw [if_neg (by rw [hdry]; simp)]
      unfold childW
      rw [hval k hkl, if_pos r1, r2, g3, hsucc, if_neg (Nat.succ_ne_zero k), hwl, show way.length + 1 + h + 1 = way.length + (h + 1) + 1 by omega, List.append_assoc, List.append_assoc]
      simp only [WS.mk.injEq, true_and, and_true]
      omega
set_option maxRecDepth 100000 in
set_option maxHeartbeats 1000000 in
theorem lev_inner {F : List UInt8} {t fuel : Int} {h n base len : Nat} {X : Nat → List (Int × List UInt8)} {C : Nat → Nat} {u : List Ent} (L : Lev F t fuel h n base X C) (hn : u.length = n) (hu : ∀ k, k < n → (u.getD k entD).2.1 = leB ((base + k : Nat) : Int) 4) (hh : ∀ k, k < n → ∃ v r, X k = ((u.getD k entD).1, v) :: r)
    (hs : ∀ a b, a < b → b < n → ∀ x ∈ X a, ∀ y ∈ X b, x.1 < y.1) (hs1 : ∀ a, a < n → (X a).Pairwise fun x y => x.1 < y.1) (E : EntsOk 4 u) (h1 : 1 ≤ t) (h2 : t ≤ 5) (hn1 : 1 ≤ n) (hb1 : 1 ≤ base) (hF : LaidF F t false 18 4 u (base + n)) (hl : F.length = len) (hb : (base + n + ovN n 18) * 256 ≤ len) (h4 : base + n + ovN n 18 ≤ 14400) :
    Lev F t fuel (h + 1) (ovN n 18) (base + n) (fun i => (List.range (sizN n 18 i)).flatMap fun j => X (i * 18 + j)) (fun i => 1 + ((List.range (sizN n 18 i)).map fun j => C (i * 18 + j)).sum) where
  one _ _ := Nat.le_add_right _ _
  go i hi d way lo hi' s hd hw hway hr hX hdry hfu hdeep := by
    subst hn
    obtain ⟨d', rfl⟩ : ∃ d', d = d' + 1 := ⟨d - 1, by omega⟩
    have N := chunk_ok E h1 h2 (leaf := false) (m := 18) (v := 4) rfl rfl (fun _ => hn1) hi
    have B := nod_back N
    obtain ⟨he, hin⟩ := blk_back N hl (by omega) (by omega) (hF i hi) t (.inr rfl)
    have hilt := siz_lt (m := 18) (by decide) hn1 hi
    have hzl := chunk_len u 18 i
    have hget : ∀ j, j < sizN u.length 18 i → (chunkE u 18 i).getD j entD = u.getD (i * 18 + j) entD := fun j hj => chunk_get hj
    have hz1 : 1 ≤ sizN u.length 18 i := by unfold sizN; omega
    have hz2 : i * 18 + sizN u.length 18 i ≤ u.length := by unfold sizN; omega
    replace hX : ∀ x ∈ (List.range (sizN u.length 18 i)).flatMap (fun j => X (i * 18 + j)), lo ≤ x.1 ∧ x.1 < hi' := hX
    replace hfu : ((s.looked + (1 + ((List.range (sizN u.length 18 i)).map fun j => C (i * 18 + j)).sum) : Nat) : Int) ≤ fuel := hfu
    show ∃ (es : List Ent) (bl : List Int), es.map kvE = (List.range (sizN u.length 18 i)).flatMap (fun j => X (i * 18 + j)) ∧ bl.length = 1 + ((List.range (sizN u.length 18 i)).map fun j => C (i * 18 + j)).sum ∧ visitF F t fuel (d' + 1) way ((base + u.length + i : Nat) : Int) lo hi' s = { s with es := s.es ++ es, bs := s.bs ++ bl, deep := ((way.length + (h + 1) + 1 : Nat) : Int), looked := s.looked + (1 + ((List.range (sizN u.length 18 i)).map fun j => C (i * 18 + j)).sum) }
    generalize sizN u.length 18 i = z at hzl hget hz1 hz2 hX hfu ⊢
    obtain ⟨no, hno⟩ : ∃ no : Int, no = ((base + u.length + i : Nat) : Int) := ⟨_, rfl⟩
    rw [← hno] at he hin ⊢
    have hC : nodC (inB F no) = (chunkE u 18 i).length := by rw [hin]; exact B.c
    have hK : nodK F no = keysE (chunkE u 18 i) := by unfold nodK; rw [hC, hin]; exact B.k
    have hV : nodV F no = valsE (chunkE u 18 i) := by unfold nodV; rw [hC, hin]; exact B.v
    have hL : nodL (inB F no) = false := by rw [hin]; exact B.l
    have hKl : (keysE (chunkE u 18 i)).length = z := by rw [keysE_len, hzl]
    have hVl : (valsE (chunkE u 18 i)).length = z := by rw [valsE_len, hzl]
    have key : ∀ j, j < z → (keysE (chunkE u 18 i)).getD j 0 = (u.getD (i * 18 + j) entD).1 := fun j hj => by rw [keysE_get (by rw [hzl]; exact hj), hget j hj]
    have vals : ∀ j, j < z → (valsE (chunkE u 18 i)).getD j [] = (u.getD (i * 18 + j) entD).2.1 := fun j hj => by rw [valsE_get (by rw [hzl]; exact hj), hget j hj]
    have hkk0 : ∀ j, j < z → 0 ≤ (keysE (chunkE u 18 i)).getD j 0 ∧ (keysE (chunkE u 18 i)).getD j 0 ≤ 281474976710655 := fun j hj => N.hk0 j (by rw [hzl]; exact hj)
    have hkk1 : ∀ j, j + 1 < z → (keysE (chunkE u 18 i)).getD j 0 < (keysE (chunkE u 18 i)).getD (j + 1) 0 := fun j hj => N.hk1 j (by rw [hzl]; exact hj)
    have hsort := nodeok_sort N
    have hcz : (chunkE u 18 i).length = z := hzl
    generalize keysE (chunkE u 18 i) = K at hK hKl key hkk0 hkk1 hsort
    generalize valsE (chunkE u 18 i) = Vs at hV hVl vals
    rw [hcz] at hC
    have hX2 : ∀ j, j < z → ∀ x ∈ X (i * 18 + j), lo ≤ x.1 ∧ x.1 < hi' := fun j hj x hx => hX x (List.mem_flatMap.2 ⟨j, List.mem_range.2 hj, hx⟩)
    have hhead : ∀ j, j < z → ∃ v r, X (i * 18 + j) = (K.getD j 0, v) :: r := fun j hj => by rw [key j hj]; exact hh _ (by omega)
    have hkb : ∀ j, j < z → lo ≤ K.getD j 0 ∧ K.getD j 0 < hi' := by
      intro j hj
      obtain ⟨v, r, hv⟩ := hhead j hj
      exact hX2 j hj (K.getD j 0, v) (by rw [hv]; exact List.mem_cons_self)
    have hk : ∀ x ∈ K, lo ≤ x ∧ x < hi' := by
      intro x hx
      obtain ⟨j, hj, rfl⟩ := List.mem_iff_getElem.1 hx
      have := hkb j (by omega)
      simpa [List.getD, hj] using this
    have hrb := of_decide_eq_true hr
    have hlook : lookE F way no t lo hi' s.deep = 0 := look_ok (by omega) (fun y hy => by have := hway y hy; omega) he hr (by rw [hK]; exact hsort) (by rw [hK]; exact hk) fun q => by rw [hL] at q; cases q
    obtain ⟨es, bl, e1, e2, e3⟩ := lev_loop L (way := way) (no := no) (hi' := hi') (s0 := { s with looked := s.looked + 1, bs := s.bs ++ [no] }) (z := z) (a := i * 18) (d' := d') K hK hKl hz2
      (fun k hk => by rw [hV, vals k hk]; exact hu _ (by omega)) hhead hs hs1 (fun k hk => ⟨(hkk0 k hk).1, (hkb k hk).2⟩) hkk1 (fun k hk x hx => (hX2 k hk x hx).2) hrb.2.2 hb1 (by omega) (by omega) (by omega) (fun y hy => by have := hway y hy; omega) (by omega) hdry (by rw [show way.length + (h + 1) + 1 = way.length + (h + 1) + 1 from rfl]; exact hdeep) (by simp only; omega) z (Nat.le_refl _)
    refine ⟨es, no :: bl, e1, by rw [List.length_cons, e2]; omega, ?_⟩
    unfold visitF
    rw [if_neg (by omega), if_neg (by rw [hlook]; simp), if_neg (by rw [hL]; simp), hC, e3, if_neg (by omega)]
    simp only [WS.mk.injEq, List.append_assoc, List.singleton_append, true_and, and_true]
    omega
end Go.Proofs.YthlakkdgcgkcdaaGreat
namespace Go.Proofs.YthlakkdgcgkcdaaGreat
open Go.RowKit Go.Extern.Stop Go.Stop Go.Extern
set_option linter.unusedVariables false
attribute [local irreducible] wpList wpAnyH Code.wp Oper.wp Go

theorem chunks_sum {n m : Nat} (hm : 1 ≤ m) (C : Nat → Nat) : ∀ j, j ≤ ovN n m → ((List.range j).map fun i => 1 + ((List.range (sizN n m i)).map fun k => C (i * m + k)).sum).sum = j + ((List.range (min (j * m) n)).map C).sum
  | 0, _ => by simp
  | j + 1, hj => by
    have hle := siz_le hm (show j < ovN n m by omega)
    have e : min ((j + 1) * m) n = j * m + sizN n m j := by unfold sizN; rw [Nat.add_mul, Nat.one_mul]; omega
    rw [List.range_succ, List.map_append, List.sum_append, chunks_sum hm C j (by omega), e, List.range_add, List.map_append, List.sum_append, Nat.min_eq_left hle]
    simp only [List.map_cons, List.map_nil, List.sum_cons, List.sum_nil, List.map_map]
    have : ((List.range (sizN n m j)).map fun k => C (j * m + k)) = (List.range (sizN n m j)).map (C ∘ fun x => j * m + x) := rfl
    rw [this]; omega
theorem chunks_flat {α : Type} {n m : Nat} (hm : 1 ≤ m) (X : Nat → List α) : ∀ j, j ≤ ovN n m → ((List.range j).flatMap fun i => (List.range (sizN n m i)).flatMap fun k => X (i * m + k)) = (List.range (min (j * m) n)).flatMap X
  | 0, _ => by simp
  | j + 1, hj => by
    have hle := siz_le hm (show j < ovN n m by omega)
    have e : min ((j + 1) * m) n = j * m + sizN n m j := by unfold sizN; rw [Nat.add_mul, Nat.one_mul]; omega
    rw [List.range_succ, List.flatMap_append, chunks_flat hm X j (by omega), e, List.range_add, List.flatMap_append, Nat.min_eq_left hle]
    simp [List.flatMap_map]
theorem ov_all {n m : Nat} (hm : 1 ≤ m) : min (ovN n m * m) n = n := by
  have h := Nat.div_add_mod (n + m - 1) m
  have h2 := Nat.mod_lt (n + m - 1) (show 0 < m by omega)
  have h3 : (n + m - 1) / m * m ≤ ovN n m * m := Nat.mul_le_mul_right m (by unfold ovN; omega)
  rw [Nat.mul_comm] at h
  omega
/-- what a scan of a level's only node finds -/
def FoundW (X : List (Int × List UInt8)) (total deep : Nat) (w : WS) : Prop := ∃ (es : List Ent) (bl : List Int), es.map kvE = X ∧ bl.length = total ∧ w = ⟨es, bl, (deep : Int), total, [], false⟩
set_option maxRecDepth 100000 in
set_option maxHeartbeats 1000000 in
theorem treeUp_scan {t fuel : Int} (h1 : 1 ≤ t) (h2 : t ≤ 5) (n : Nat) : ∀ (u : List Ent) (h base : Nat) (bs F : List UInt8) (X : Nat → List (Int × List UInt8)) (C : Nat → Nat), u.length = n → 1 ≤ n → EntsOk 4 u → (∀ k, k < n → (u.getD k entD).2.1 = leB ((base + k : Nat) : Int) 4 ∧ (u.getD k entD).2.2 = ((base + k : Nat) : Int)) →
    (2 ≤ n → ∀ k, k < n → ∃ v r, X k = ((u.getD k entD).1, v) :: r) → (∀ a b, a < b → b < n → ∀ x ∈ X a, ∀ y ∈ X b, x.1 < y.1) → (∀ a, a < n → (X a).Pairwise fun x y => x.1 < y.1) → F = (treeUp t u (base + n) bs).2 → 1 ≤ base → (base + n + ((levs n).sum - n)) * 256 ≤ bs.length → base + n + ((levs n).sum - n) ≤ 14400 → Lev F t fuel h n base X C → h + (levs n).length ≤ 16 →
    (∀ k, k < n → ∀ x ∈ X k, 0 ≤ x.1 ∧ x.1 < 281474976710656) → ((((List.range n).map C).sum + ((levs n).sum - n) : Nat) : Int) ≤ fuel →
    FoundW ((List.range n).flatMap X) (((List.range n).map C).sum + ((levs n).sum - n)) (h + (levs n).length) (scanW F (treeUp t u (base + n) bs).1 t fuel) := by
  induction n using Nat.strongRecOn with
  | _ n ih =>
    intro u h base bs F X C hn hn1 E hu hh hs hs1 hF hb1 hbs h4 L hdep hX hfu
    subst hn
    by_cases h9 : u.length ≤ 1
    · have h10 : u.length = 1 := by omega
      have hl1 : levs u.length = [1] := by rw [levs_one h9, h10]
      rw [hl1] at hdep hfu ⊢
      rw [h10] at hfu ⊢
      simp only [List.length_cons, List.length_nil, List.sum_cons, List.sum_nil, List.range_one, List.map_cons, List.map_nil, List.flatMap_cons, List.flatMap_nil, List.append_nil, Nat.sub_self, Nat.add_zero] at hdep hfu ⊢
      rw [treeUp_one h9, (hu 0 (by omega)).2]
      obtain ⟨es, bl, e1, e2, e3⟩ := L.go 0 (by omega) 17 [] 0 281474976710656 ws0 (by omega) (by simp; omega) (fun y hy => by cases hy) (by decide) (fun x hx => hX 0 (by omega) x hx) rfl (by simp only [ws0]; omega) (.inl rfl)
      refine ⟨es, bl, e1, e2, ?_⟩
      unfold scanW
      rw [e3]
      simp [ws0]
    · have h18 := ov18 (x := u.length) (by omega)
      have hp := ovN_pos u.length 18
      have hlm : levs u.length = u.length :: levs (ovN u.length 18) := levs_more h9
      have hg := levs_ge (ovN u.length 18)
      rw [hlm] at hbs h4 hdep hfu
      simp only [List.sum_cons, List.length_cons] at hbs h4 hdep hfu
      obtain ⟨a1, a2, a3⟩ := levB_laid (t := t) (leaf := false) (m := 18) (v := 4) (l := u) (q := base + u.length) (bs := bs) E h1 h2 rfl rfl (fun _ => by omega) (ovN u.length 18) (Nat.le_refl _) (by omega)
      obtain ⟨b1, b2⟩ := treeUp_keep (t := t) h1 h2 (ovN u.length 18) (upE u 18 (base + u.length) (ovN u.length 18)) (base + u.length + ovN u.length 18) (levB t false 18 4 u (base + u.length) bs (ovN u.length 18)) (upE_len _ _ _ _) hp (up_ok E (by decide)) (by rw [a1]; omega)
      have hF2 : F = (treeUp t (upE u 18 (base + u.length) (ovN u.length 18)) (base + u.length + ovN u.length 18) (levB t false 18 4 u (base + u.length) bs (ovN u.length 18))).2 := by rw [hF, treeUp_more h9]
      have hlen : F.length = bs.length := by rw [hF2, b1, a1]
      have hLaid : LaidF F t false 18 4 u (base + u.length) := by
        intro i hi
        rw [hF2, b2 _ (by omega)]; exact a2 i hi
      have L2 := lev_inner L rfl (fun k hk => (hu k hk).1) (hh (by omega)) hs hs1 E h1 h2 hn1 hb1 hLaid hlen (by omega) (by omega)
      have hsz : ∀ i, sizN u.length 18 i = min 18 (u.length - i * 18) := fun i => rfl
      have hsl : ∀ i, i < ovN u.length 18 → i * 18 < u.length := fun i hi => siz_lt (by decide) hn1 hi
      have hall := ov_all (n := u.length) (m := 18) (by decide)
      have hsum := chunks_sum (n := u.length) (m := 18) (by decide) C (ovN u.length 18) (Nat.le_refl _)
      have hflat := chunks_flat (n := u.length) (m := 18) (by decide) X (ovN u.length 18) (Nat.le_refl _)
      rw [hall] at hsum hflat
      have key := ih (ovN u.length 18) (by omega) (upE u 18 (base + u.length) (ovN u.length 18)) (h + 1) (base + u.length) (levB t false 18 4 u (base + u.length) bs (ovN u.length 18)) F (fun i => (List.range (sizN u.length 18 i)).flatMap fun j => X (i * 18 + j)) (fun i => 1 + ((List.range (sizN u.length 18 i)).map fun j => C (i * 18 + j)).sum) (upE_len _ _ _ _) hp (up_ok E (by decide)) (fun k hk => by rw [upE_get hk]; exact ⟨rfl, rfl⟩)
        (fun _ k hk => by
          obtain ⟨v, r, hv⟩ := hh (by omega) (k * 18) (hsl k hk)
          obtain ⟨z, hz⟩ : ∃ z, sizN u.length 18 k = z + 1 := ⟨sizN u.length 18 k - 1, by have := hsl k hk; rw [hsz]; omega⟩
          refine ⟨v, r ++ (List.range z).flatMap fun j => X (k * 18 + (j + 1)), ?_⟩
          show (List.range (sizN u.length 18 k)).flatMap _ = _
          rw [hz, List.range_succ_eq_map, List.flatMap_cons, Nat.add_zero, hv, upE_get hk, (up_key (v := 4) (by decide) hn1 hk).1, List.flatMap_map]
          rfl)
        (fun a b hab hb x hx y hy => by
          obtain ⟨j, hj, hx⟩ := List.mem_flatMap.1 hx
          obtain ⟨j2, hj2, hy⟩ := List.mem_flatMap.1 hy
          have hj := List.mem_range.1 hj
          have hj2 := List.mem_range.1 hj2
          rw [hsz] at hj hj2
          have : (a + 1) * 18 ≤ b * 18 := Nat.mul_le_mul_right 18 hab
          exact hs (a * 18 + j) (b * 18 + j2) (by omega) (by omega) x hx y hy)
        (fun a ha => by
          refine List.pairwise_flatMap.2 ⟨fun j hj => ?_, ?_⟩
          · have hj := List.mem_range.1 hj
            rw [hsz] at hj
            exact hs1 _ (by omega)
          · refine List.Pairwise.imp_of_mem ?_ (List.pairwise_lt_range)
            intro j j2 hj hj2 hlt x hx y hy
            have hj2 := List.mem_range.1 hj2
            rw [hsz] at hj2
            exact hs (a * 18 + j) (a * 18 + j2) (by omega) (by omega) x hx y hy)
        hF2 (by omega) (by rw [a1]; omega) (by omega) L2 (by omega)
        (fun k hk x hx => by
          obtain ⟨j, hj, hx⟩ := List.mem_flatMap.1 hx
          have hj := List.mem_range.1 hj
          rw [hsz] at hj
          exact hX _ (by omega) x hx)
        (by rw [hsum]; omega)
      rw [hsum, hflat] at key
      rw [treeUp_more h9, hlm, List.sum_cons, List.length_cons]
      have e1 : ovN u.length 18 + ((List.range u.length).map C).sum + ((levs (ovN u.length 18)).sum - ovN u.length 18) = ((List.range u.length).map C).sum + (u.length + (levs (ovN u.length 18)).sum - u.length) := by omega
      have e2 : h + 1 + (levs (ovN u.length 18)).length = h + ((levs (ovN u.length 18)).length + 1) := by omega
      rw [e1, e2] at key
      exact key
set_option maxRecDepth 100000 in
set_option maxHeartbeats 1000000 in
theorem levs_short : ∀ (k x : Nat), x ≤ 18 ^ k → (levs x).length ≤ k + 1
  | 0, x, h => by rw [levs_one (by simpa using h)]; simp
  | k + 1, x, h => by
    by_cases h1 : x ≤ 1
    · rw [levs_one h1]; simp
    · rw [levs_more h1, List.length_cons]
      have : ovN x 18 ≤ 18 ^ k := by
        rw [Nat.pow_succ] at h
        have hp : 0 < 18 ^ k := Nat.pow_pos (by decide)
        unfold ovN
        have : (x + 18 - 1) / 18 ≤ 18 ^ k := by
          rw [Nat.div_le_iff_le_mul_add_pred (by decide)]; omega
        omega
      have := levs_short k _ this
      omega
theorem chunk_flat {l : List Ent} {m : Nat} : ∀ j, ((List.range j).flatMap fun i => (chunkE l m i).map kvE) = (l.take (j * m)).map kvE
  | 0 => by simp
  | j + 1 => by
    rw [List.range_succ, List.flatMap_append, chunk_flat j, Nat.add_mul, Nat.one_mul, List.take_add, List.map_append]
    simp [chunkE]
theorem sum_one (n : Nat) : ((List.range n).map fun _ => 1).sum = n := by
  induction n with
  | zero => rfl
  | succ n ih => rw [List.range_succ, List.map_append, List.sum_append, ih]; simp
set_option maxRecDepth 100000 in
set_option maxHeartbeats 1000000 in
/-- a packed tree is scanned: its entries, its blocks, no faults -/
theorem treeB_scan {t fuel : Int} {l : List Ent} {q : Nat} {bs : List UInt8} (h1 : 1 ≤ t) (h2 : t ≤ 5) (E : EntsOk (widN t true) l) (hn : l.length ≤ 32768) (hq : 1 ≤ q) (hbs : (q + nodN t l.length) * 256 ≤ bs.length) (h4 : q + nodN t l.length ≤ 14400) (hfu : (nodN t l.length : Int) ≤ fuel) :
    FoundW (l.map kvE) (nodN t l.length) (levL t l.length).length (scanW (treeB t l q bs).2 (treeB t l q bs).1 t fuel) := by
  obtain ⟨m, hm⟩ : ∃ m, maxN t true = m := ⟨_, rfl⟩
  obtain ⟨v, hv⟩ : ∃ v, widN t true = v := ⟨_, rfl⟩
  have hmb := maxN_pos t true
  have h6 : 6 ≤ maxN t true := by unfold maxN; repeat' split
                                  all_goals first | decide | simp_all
  have hop := ovN_pos l.length m
  have hg := levs_ge (ovN l.length m)
  have hN : nodN t l.length = (levs (ovN l.length m)).sum := by unfold nodN levL; rw [hm]
  have hT : treeB t l q bs = treeUp t (upE l m q (ovN l.length m)) (q + ovN l.length m) (levB t true m v l q bs (ovN l.length m)) := by unfold treeB; rw [hm, hv]
  have hD : (levL t l.length).length = 0 + (levs (ovN l.length m)).length := by unfold levL; rw [hm, Nat.zero_add]
  rw [hv] at E
  rw [hm] at hmb h6
  rw [hN] at hbs h4 hfu ⊢
  rw [hD, hT]
  obtain ⟨a1, a2, a3⟩ := levB_laid (t := t) (leaf := true) (m := m) (v := v) (l := l) (q := q) (bs := bs) E h1 h2 hm hv (fun h => by cases h) (ovN l.length m) (Nat.le_refl _) (by omega)
  obtain ⟨b1, b2⟩ := treeUp_keep (t := t) h1 h2 (ovN l.length m) (upE l m q (ovN l.length m)) (q + ovN l.length m) (levB t true m v l q bs (ovN l.length m)) (upE_len _ _ _ _) hop (up_ok E hmb.1) (by rw [a1]; omega)
  have hlen : (treeUp t (upE l m q (ovN l.length m)) (q + ovN l.length m) (levB t true m v l q bs (ovN l.length m))).2.length = bs.length := by rw [b1, a1]
  have hLaid : LaidF (treeUp t (upE l m q (ovN l.length m)) (q + ovN l.length m) (levB t true m v l q bs (ovN l.length m))).2 t true m v l q := by
    intro i hi
    rw [b2 _ (by omega)]; exact a2 i hi
  have L := lev_leaf (fuel := fuel) hm hv E h1 h2 hLaid hlen (by omega) (by omega)
  have hov : ovN l.length m ≤ 5833 := by
    unfold ovN
    have : (l.length + m - 1) / m ≤ 5833 := by
      rw [Nat.div_le_iff_le_mul_add_pred (by omega)]
      have := Nat.mul_le_mul_right 5833 h6
      omega
    omega
  have hdep := levs_short 4 (ovN l.length m) (Nat.le_trans hov (by decide))
  have hget : ∀ {i j : Nat}, j < sizN l.length m i → i * m + j < l.length := fun {i j} hj => by unfold sizN at hj; omega
  have hmem : ∀ {i : Nat} {x : Int × List UInt8}, x ∈ (chunkE l m i).map kvE → ∃ j, j < sizN l.length m i ∧ x = kvE (l.getD (i * m + j) entD) := by
    intro i x hx
    obtain ⟨y, hy, rfl⟩ := List.mem_map.1 hx
    obtain ⟨j, hj, rfl⟩ := List.mem_iff_getElem.1 hy
    have hj2 : j < sizN l.length m i := by rw [← chunk_len]; exact hj
    refine ⟨j, hj2, ?_⟩
    rw [← chunk_get hj2]; simp [List.getD, hj]
  have key := treeUp_scan (fuel := fuel) h1 h2 (ovN l.length m) (upE l m q (ovN l.length m)) 0 q (levB t true m v l q bs (ovN l.length m)) _ (fun i => (chunkE l m i).map kvE) (fun _ => 1) (upE_len _ _ _ _) hop (up_ok E hmb.1) (fun k hk => by rw [upE_get hk]; exact ⟨rfl, rfl⟩)
    (fun h2n k hk => by
      have hl1 : 1 ≤ l.length := by
        rcases Nat.eq_zero_or_pos l.length with q0 | q0
        · rw [q0] at h2n
          have : ovN 0 m = 1 := by unfold ovN; rw [Nat.div_eq_of_lt (by omega)]; rfl
          omega
        · exact q0
      obtain ⟨k1, k2⟩ := up_key (v := v) (q := q) hmb.1 hl1 hk
      have hz : 0 < sizN l.length m k := by unfold sizN; omega
      rw [upE_get hk, k1]
      have hc := chunk_len l m k
      cases hcc : chunkE l m k with
      | nil => rw [hcc] at hc; simp at hc; omega
      | cons y r =>
        refine ⟨y.2.1, r.map kvE, ?_⟩
        have h0 := chunk_get (l := l) (m := m) (i := k) (j := 0) hz
        rw [hcc, Nat.add_zero] at h0
        simp only [List.map_cons]
        have e0 : y = l.getD (k * m) entD := by simpa [List.getD] using h0
        rw [e0]; rfl)
    (fun a b hab hb x hx y hy => by
      obtain ⟨j, hj, rfl⟩ := hmem hx
      obtain ⟨j2, hj2, rfl⟩ := hmem hy
      have : (a + 1) * m ≤ b * m := Nat.mul_le_mul_right m hab
      rw [Nat.add_mul, Nat.one_mul] at this
      have hjm : j < m := by unfold sizN at hj; omega
      exact E.mono (a := a * m + j) (b := b * m + j2) (by omega) (hget hj2))
    (fun a ha => by
      rw [List.pairwise_map]
      refine List.pairwise_iff_getElem.2 fun i j hi hj hij => ?_
      have hj2 : j < sizN l.length m a := by rw [← chunk_len]; exact hj
      have e1 := chunk_get (l := l) (m := m) (i := a) (j := i) (by omega)
      have e2 := chunk_get (l := l) (m := m) (i := a) (j := j) hj2
      simp only [List.getD, List.getElem?_eq_getElem hi, List.getElem?_eq_getElem hj, Option.getD_some] at e1 e2
      show (chunkE l m a)[i].1 < (chunkE l m a)[j].1
      rw [e1, e2]
      exact E.mono (a := a * m + i) (b := a * m + j) (by omega) (hget hj2))
    rfl hq (by rw [a1]; omega) (by omega) L (by omega)
    (fun k hk x hx => by
      obtain ⟨j, hj, rfl⟩ := hmem hx
      have := E.hk _ (hget hj)
      exact ⟨this.1, by have := this.2; simp only [kvE]; omega⟩)
    (by rw [sum_one]; omega)
  rw [sum_one, chunk_flat] at key
  rw [show ovN l.length m + ((levs (ovN l.length m)).sum - ovN l.length m) = (levs (ovN l.length m)).sum by omega] at key
  have hall := ov_all (n := l.length) (m := m) hmb.1
  rw [List.take_of_length_le (by omega)] at key
  exact key
end Go.Proofs.YthlakkdgcgkcdaaGreat
namespace Go.Proofs.YthlakkdgcgkcdaaGreat
open Go.RowKit Go.Extern.Stop Go.Stop Go.Extern
set_option linter.unusedVariables false
attribute [local irreducible] wpList wpAnyH Code.wp Oper.wp Go

set_option maxRecDepth 100000 in
theorem putB_comm {l x y : List UInt8} {a b : Nat} (ha : a + x.length ≤ l.length) (hb : b + y.length ≤ l.length) (hd : a + x.length ≤ b ∨ b + y.length ≤ a) : putB (putB l a x) b y = putB (putB l b y) a x := by
  have e1 := putB_len ha
  have e2 := putB_len hb
  apply ext_getD
  · rw [putB_len (by rw [e1]; exact hb), e1, putB_len (by rw [e2]; exact ha), e2]
  · intro j hj
    rw [putB_get (by rw [e1]; exact hb), putB_get ha, putB_get (by rw [e2]; exact ha), putB_get hb]
    by_cases p : a ≤ j ∧ j < a + x.length
    · rw [if_neg (by omega), if_pos p, if_pos p]
    · rw [if_neg p, if_neg p]
set_option maxRecDepth 100000 in
theorem levB_put {t : Int} {leaf : Bool} {m v : Nat} {l : List Ent} {q k : Nat} {bs x : List UInt8} (E : EntsOk v l) (h1 : 1 ≤ t) (h2 : t ≤ 5) (hm : maxN t leaf = m) (hv : widN t leaf = v) (hl : leaf = false → 1 ≤ l.length) (hx : x.length = 256) (hk : (k + 1) * 256 ≤ bs.length) (j : Nat) :
    j ≤ ovN l.length m → (q + j) * 256 ≤ bs.length → (k < q ∨ q + j ≤ k) → putB (levB t leaf m v l q bs j) (k * 256) x = levB t leaf m v l q (putB bs (k * 256) x) j := by
  induction j with
  | zero => exact fun _ _ _ => by simp only [levB]
  | succ j ih =>
    intro hj hq hd
    have ih := ih (by omega) (by omega) (by omega)
    have a1 := (levB_laid (t := t) (leaf := leaf) (m := m) (v := v) (l := l) (q := q) (bs := bs) E h1 h2 hm hv hl j (by omega) (by omega)).1
    have hlen := nodB_len (chunk_ok E h1 h2 hm hv hl (show j < ovN l.length m by omega))
    have hsl : (sealB 2 ((q + j : Nat) : Int) (nodB t leaf m v (chunkE l m j))).length = 256 := sealB_len (by rw [hlen]; decide)
    rw [levB_succ, levB_succ, ← ih]
    exact putB_comm (by rw [hsl, a1]; omega) (by rw [hx, a1]; omega) (by rw [hsl, hx]; omega)
set_option maxRecDepth 100000 in
theorem treeUp_put {t : Int} (h1 : 1 ≤ t) (h2 : t ≤ 5) {k : Nat} {x : List UInt8} (hx : x.length = 256) (n : Nat) : ∀ (u : List Ent) (q : Nat) (bs : List UInt8), u.length = n → 1 ≤ n → EntsOk 4 u → (q + ((levs n).sum - n)) * 256 ≤ bs.length → (k + 1) * 256 ≤ bs.length → (k < q ∨ q + ((levs n).sum - n) ≤ k) →
    treeUp t u q (putB bs (k * 256) x) = ((treeUp t u q bs).1, putB (treeUp t u q bs).2 (k * 256) x) := by
  induction n using Nat.strongRecOn with
  | _ n ih =>
    intro u q bs hn h1n E hq hk hd
    subst hn
    by_cases h : u.length ≤ 1
    · rw [treeUp_one h, treeUp_one h]
    · have h18 := ov18 (x := u.length) (by omega)
      have hp := ovN_pos u.length 18
      have hlm : (levs u.length).sum = u.length + (levs (ovN u.length 18)).sum := by rw [levs_more h]; rfl
      have hg := levs_ge (ovN u.length 18)
      rw [treeUp_more h, treeUp_more h]
      obtain ⟨a1, a2, a3⟩ := levB_laid (t := t) (leaf := false) (m := 18) (v := 4) (l := u) (q := q) (bs := bs) E h1 h2 rfl rfl (fun _ => by omega) (ovN u.length 18) (Nat.le_refl _) (by omega)
      rw [← levB_put (leaf := false) (m := 18) (v := 4) E h1 h2 rfl rfl (fun _ => by omega) hx hk (ovN u.length 18) (Nat.le_refl _) (by omega) (by omega)]
      exact ih (ovN u.length 18) (by omega) (upE u 18 q (ovN u.length 18)) (q + ovN u.length 18) _ (upE_len _ _ _ _) hp (up_ok E (by decide)) (by rw [a1]; omega) (by rw [a1]; exact hk) (by omega)
set_option maxRecDepth 100000 in
/-- a block outside of a tree may be written before it is laid, or behind it -/
theorem treeB_put {t : Int} {l : List Ent} {q k : Nat} {bs x : List UInt8} (h1 : 1 ≤ t) (h2 : t ≤ 5) (E : EntsOk (widN t true) l) (hx : x.length = 256) (hq : (q + nodN t l.length) * 256 ≤ bs.length) (hk : (k + 1) * 256 ≤ bs.length) (hd : k < q ∨ q + nodN t l.length ≤ k) :
    treeB t l q (putB bs (k * 256) x) = ((treeB t l q bs).1, putB (treeB t l q bs).2 (k * 256) x) := by
  obtain ⟨m, hm⟩ : ∃ m, maxN t true = m := ⟨_, rfl⟩
  have hmb := maxN_pos t true
  have hop := ovN_pos l.length m
  have hg := levs_ge (ovN l.length m)
  have hN : nodN t l.length = (levs (ovN l.length m)).sum := by unfold nodN levL; rw [hm]
  rw [hm] at hmb
  rw [hN] at hq hd
  unfold treeB
  rw [hm]
  obtain ⟨a1, a2, a3⟩ := levB_laid (t := t) (leaf := true) (m := m) (v := widN t true) (l := l) (q := q) (bs := bs) E h1 h2 hm rfl (fun h => by cases h) (ovN l.length m) (Nat.le_refl _) (by omega)
  rw [← levB_put E h1 h2 hm rfl (fun h => by cases h) hx hk (ovN l.length m) (Nat.le_refl _) (by omega) (by omega)]
  exact treeUp_put h1 h2 hx (ovN l.length m) (upE l m q (ovN l.length m)) (q + ovN l.length m) _ (upE_len _ _ _ _) hop (up_ok E hmb.1) (by rw [a1]; omega) (by rw [a1]; exact hk) (by omega)
set_option maxRecDepth 100000 in
theorem treeB_keep {t : Int} {l : List Ent} {q : Nat} {bs : List UInt8} (h1 : 1 ≤ t) (h2 : t ≤ 5) (E : EntsOk (widN t true) l) (hq : (q + nodN t l.length) * 256 ≤ bs.length) : (treeB t l q bs).2.length = bs.length ∧ ∀ x, x < q → blkB (treeB t l q bs).2 x = blkB bs x := by
  obtain ⟨m, hm⟩ : ∃ m, maxN t true = m := ⟨_, rfl⟩
  have hmb := maxN_pos t true
  have hop := ovN_pos l.length m
  have hg := levs_ge (ovN l.length m)
  have hN : nodN t l.length = (levs (ovN l.length m)).sum := by unfold nodN levL; rw [hm]
  rw [hm] at hmb
  rw [hN] at hq
  unfold treeB
  rw [hm]
  obtain ⟨a1, a2, a3⟩ := levB_laid (t := t) (leaf := true) (m := m) (v := widN t true) (l := l) (q := q) (bs := bs) E h1 h2 hm rfl (fun h => by cases h) (ovN l.length m) (Nat.le_refl _) (by omega)
  obtain ⟨b1, b2⟩ := treeUp_keep (t := t) h1 h2 (ovN l.length m) (upE l m q (ovN l.length m)) (q + ovN l.length m) (levB t true m (widN t true) l q bs (ovN l.length m)) (upE_len _ _ _ _) hop (up_ok E hmb.1) (by rw [a1]; omega)
  exact ⟨by rw [b1, a1], fun x hx => by rw [b2 x (by omega), a3 x hx]⟩
set_option maxRecDepth 100000 in
theorem levB_tree {t s : Int} {leaf : Bool} {m v : Nat} {l e : List Ent} {q p : Nat} {bs : List UInt8} (E : EntsOk v l) (h1 : 1 ≤ t) (h2 : t ≤ 5) (hm : maxN t leaf = m) (hv : widN t leaf = v) (hl : leaf = false → 1 ≤ l.length) (s1 : 1 ≤ s) (s2 : s ≤ 5) (Es : EntsOk (widN s true) e) (hp : (p + nodN s e.length) * 256 ≤ bs.length) (j : Nat) :
    j ≤ ovN l.length m → (q + j) * 256 ≤ bs.length → p + nodN s e.length ≤ q → treeB s e p (levB t leaf m v l q bs j) = ((treeB s e p bs).1, levB t leaf m v l q (treeB s e p bs).2 j) := by
  induction j with
  | zero => exact fun _ _ _ => by simp only [levB]
  | succ j ih =>
    intro hj hq hd
    have ih := ih (by omega) (by omega) hd
    have a1 := (levB_laid (t := t) (leaf := leaf) (m := m) (v := v) (l := l) (q := q) (bs := bs) E h1 h2 hm hv hl j (by omega) (by omega)).1
    have hlen := nodB_len (chunk_ok E h1 h2 hm hv hl (show j < ovN l.length m by omega))
    have hsl : (sealB 2 ((q + j : Nat) : Int) (nodB t leaf m v (chunkE l m j))).length = 256 := sealB_len (by rw [hlen]; decide)
    rw [levB_succ, levB_succ, treeB_put s1 s2 Es hsl (by rw [a1]; exact hp) (by rw [a1]; omega) (by omega), ih]
set_option maxRecDepth 100000 in
theorem treeUp_tree {t s : Int} {e : List Ent} {p : Nat} (h1 : 1 ≤ t) (h2 : t ≤ 5) (s1 : 1 ≤ s) (s2 : s ≤ 5) (Es : EntsOk (widN s true) e) (n : Nat) : ∀ (u : List Ent) (q : Nat) (bs : List UInt8), u.length = n → 1 ≤ n → EntsOk 4 u → (q + ((levs n).sum - n)) * 256 ≤ bs.length → (p + nodN s e.length) * 256 ≤ bs.length → p + nodN s e.length ≤ q →
    treeB s e p (treeUp t u q bs).2 = ((treeB s e p bs).1, (treeUp t u q (treeB s e p bs).2).2) := by
  induction n using Nat.strongRecOn with
  | _ n ih =>
    intro u q bs hn h1n E hq hp hd
    subst hn
    by_cases h : u.length ≤ 1
    · rw [treeUp_one h, treeUp_one h]
    · have h18 := ov18 (x := u.length) (by omega)
      have hpo := ovN_pos u.length 18
      have hlm : (levs u.length).sum = u.length + (levs (ovN u.length 18)).sum := by rw [levs_more h]; rfl
      have hg := levs_ge (ovN u.length 18)
      obtain ⟨a1, a2, a3⟩ := levB_laid (t := t) (leaf := false) (m := 18) (v := 4) (l := u) (q := q) (bs := bs) E h1 h2 rfl rfl (fun _ => by omega) (ovN u.length 18) (Nat.le_refl _) (by omega)
      have hl := levB_tree (leaf := false) (m := 18) (v := 4) (p := p) E h1 h2 rfl rfl (fun _ => by omega) s1 s2 Es hp (ovN u.length 18) (Nat.le_refl _) (by omega) hd
      rw [treeUp_more h, treeUp_more h, ih (ovN u.length 18) (by omega) (upE u 18 q (ovN u.length 18)) (q + ovN u.length 18) _ (upE_len _ _ _ _) hpo (up_ok E (by decide)) (by rw [a1]; omega) (by rw [a1]; exact hp) (by omega), hl]
set_option maxRecDepth 100000 in
/-- a tree below another one may be laid behind it -/
theorem treeB_tree {t s : Int} {l e : List Ent} {q p : Nat} {bs : List UInt8} (h1 : 1 ≤ t) (h2 : t ≤ 5) (E : EntsOk (widN t true) l) (s1 : 1 ≤ s) (s2 : s ≤ 5) (Es : EntsOk (widN s true) e) (hq : (q + nodN t l.length) * 256 ≤ bs.length) (hd : p + nodN s e.length ≤ q) :
    treeB s e p (treeB t l q bs).2 = ((treeB s e p bs).1, (treeB t l q (treeB s e p bs).2).2) := by
  obtain ⟨m, hm⟩ : ∃ m, maxN t true = m := ⟨_, rfl⟩
  have hmb := maxN_pos t true
  have hop := ovN_pos l.length m
  have hg := levs_ge (ovN l.length m)
  have hN : nodN t l.length = (levs (ovN l.length m)).sum := by unfold nodN levL; rw [hm]
  rw [hm] at hmb
  rw [hN] at hq
  have hpb : (p + nodN s e.length) * 256 ≤ bs.length := by omega
  obtain ⟨a1, a2, a3⟩ := levB_laid (t := t) (leaf := true) (m := m) (v := widN t true) (l := l) (q := q) (bs := bs) E h1 h2 hm rfl (fun h => by cases h) (ovN l.length m) (Nat.le_refl _) (by omega)
  have hl := levB_tree (p := p) E h1 h2 hm rfl (fun h => by cases h) s1 s2 Es hpb (ovN l.length m) (Nat.le_refl _) (by omega) hd
  have hu := treeUp_tree (p := p) h1 h2 s1 s2 Es (ovN l.length m) (upE l m q (ovN l.length m)) (q + ovN l.length m) (levB t true m (widN t true) l q bs (ovN l.length m)) (upE_len _ _ _ _) hop (up_ok E hmb.1) (by rw [a1]; omega) (by rw [a1]; exact hpb) (by omega)
  rw [show (treeB t l q bs) = treeUp t (upE l m q (ovN l.length m)) (q + ovN l.length m) (levB t true m (widN t true) l q bs (ovN l.length m)) from by unfold treeB; rw [hm], hu, hl]
  rw [show (treeB t l q (treeB s e p bs).2) = treeUp t (upE l m q (ovN l.length m)) (q + ovN l.length m) (levB t true m (widN t true) l q (treeB s e p bs).2 (ovN l.length m)) from by unfold treeB; rw [hm]]
end Go.Proofs.YthlakkdgcgkcdaaGreat
namespace Go.Proofs.YthlakkdgcgkcdaaGreat
open Go.RowKit Go.Extern.Stop Go.Stop Go.Extern
set_option linter.unusedVariables false
attribute [local irreducible] wpList wpAnyH Code.wp Oper.wp Go

theorem overK_mem {l : List Int} {k : Nat} {x : Ent} : x ∈ overK l k ↔ ∃ j : Nat, j < k ∧ 3 ≤ l.getD j 0 ∧ x = ((j : Int), leB (l.getD j 0) 4, 0) := by
  unfold overK
  simp only [List.mem_flatMap, List.mem_range]
  constructor
  · rintro ⟨j, hj, hx⟩
    unfold ovX at hx
    split at hx
    · rename_i h3
      exact ⟨j, hj, h3, List.mem_singleton.1 hx⟩
    · cases hx
  · rintro ⟨j, hj, h3, rfl⟩
    exact ⟨j, hj, by unfold ovX; rw [if_pos h3]; exact List.mem_singleton.2 rfl⟩
theorem cnt_val {n : Int} (h0 : 3 ≤ n) (h : n ≤ 2147483647) : readE cntP (leB n 4) = 0 ∧ readV cntP (leB n 4) = [n.toNat] := by
  obtain ⟨m, rfl⟩ : ∃ m : Nat, n = (m : Int) := ⟨n.toNat, by omega⟩
  have e : rawN (leB (m : Int) 4) 0 4 = m := by
    have h := rawN_leB (a := []) (b := []) (m := m) (w := 4) (by omega)
    simpa using h
  have hr : rawsL cntP (leB (m : Int) 4) = [m] := by
    show unpL (leB (m : Int) 4) 0 [4] = _
    simp only [unpL]
    rw [e]
  have h1 : readE cntP (leB (m : Int) 4) = 0 := by
    have hk : readOk cntP (leB (m : Int) 4) = true := by
      unfold readOk
      rw [hr, show cntP.length = 1 from rfl]
      unfold allIn
      rw [show List.range 1 = [0] from rfl]
      simp [inP, cntP]
      omega
    unfold readE
    rw [if_pos (by rw [leB_len]; rfl), if_pos hk]
  exact ⟨h1, by unfold readV; rw [if_pos h1, hr]; simp⟩
theorem mn3_ge {n : Int} : mn3 n = 3 ↔ 3 ≤ n := by unfold mn3; split <;> omega
theorem mn3_lt {n : Int} (h : n < 3) : mn3 n = n := if_pos h
theorem smallL_get (l : List Int) (k : Nat) : (smallL l).getD k 0 = mn3 (l.getD k 0) := by
  by_cases h : k < l.length
  · simp [smallL, List.getD, h]
  · simp [smallL, List.getD, Nat.le_of_not_lt h, mn3]
theorem kv_get {E O : List Ent} (hE : E.map kvE = O.map kvE) : E.length = O.length ∧ ∀ i, i < O.length → (E.getD i entD).1 = (O.getD i entD).1 ∧ (E.getD i entD).2.1 = (O.getD i entD).2.1 := by
  have hl : E.length = O.length := by simpa using congrArg List.length hE
  refine ⟨hl, fun i hi => ?_⟩
  have h := congrArg (fun x => x[i]?) hE
  simp only [List.getElem?_map, List.getElem?_eq_getElem hi, List.getElem?_eq_getElem (show i < E.length by omega), Option.map_some, Option.some.injEq] at h
  rw [ents_getD hi, ents_getD (by omega)]
  have h2 : (E[i].1, E[i].2.1) = (O[i].1, O[i].2.1) := h
  exact ⟨(Prod.mk.inj h2).1, (Prod.mk.inj h2).2⟩
set_option maxRecDepth 100000 in
theorem join_back {l : List Int} {E : List Ent} (hc : ∀ k, k < l.length → cntOk (l.getD k 0)) (hE : E.map kvE = (overK l l.length).map kvE) : joinO (smallL l) E = (0, l) := by
  obtain ⟨hl, hg⟩ := kv_get hE
  have hO := overK_ok l l.length
  have hm : ∀ i, i < E.length → ∃ k : Nat, k < l.length ∧ 3 ≤ l.getD k 0 ∧ jKey E i = (k : Int) ∧ (E.getD i entD).2.1 = leB (l.getD k 0) 4 := fun i hi => by
    rw [hl] at hi
    obtain ⟨k, hk, h3, e⟩ := overK_mem.1 (List.getElem_mem hi)
    have := hg i hi
    rw [ents_getD (l := overK l l.length) hi, e] at this
    exact ⟨k, hk, h3, this.1, this.2⟩
  have hv : ∀ i, i < E.length → ∀ k : Nat, jKey E i = (k : Int) → jVal E i = l.getD k 0 ∧ 3 ≤ l.getD k 0 ∧ readE cntP (E.getD i entD).2.1 = 0 := fun i hi k hk => by
    obtain ⟨k2, h1, h2, h3, h4⟩ := hm i hi
    obtain rfl : k = k2 := by omega
    have hb := hc k h1
    unfold cntOk at hb
    have hv := cnt_val h2 hb.2
    unfold jVal
    rw [h4, hv.2]
    refine ⟨?_, h2, hv.1⟩
    show (((l.getD k 0).toNat : Nat) : Int) = _
    omega
  have hok : jOk (smallL l) E E.length := fun i hi => by
    obtain ⟨k, h1, h2, h3, h4⟩ := hm i hi
    have hlast : jLast E i < jKey E i := by
      unfold jLast
      split
      · omega
      · rename_i h0
        have hp := List.pairwise_iff_getElem.1 hO.1 (i - 1) i (by omega) (by omega) (by omega)
        have a := (hg i (by omega)).1
        have b := (hg (i - 1) (by omega)).1
        rw [ents_getD (l := overK l l.length) (by omega)] at a b
        unfold jKey
        rw [a, b]; exact hp
    unfold jBad
    rw [if_neg (by omega), if_neg (fun q => q (by rw [h3, Int.toNat_natCast, smallL_get]; exact mn3_ge.2 h2))]
    exact (hv i hi k h3).2.2
  have hex : ∀ k : Nat, k < l.length → (smallL l).getD k 0 = 3 → ∃ j, j < E.length ∧ jKey E j = (k : Int) := fun k hk h3 => by
    rw [smallL_get] at h3
    obtain ⟨j, hj, e⟩ := List.getElem_of_mem (overK_mem.2 ⟨k, hk, mn3_ge.1 h3, rfl⟩)
    have a := (hg j hj).1
    rw [ents_getD (l := overK l l.length) hj, e] at a
    exact ⟨j, by omega, a⟩
  rw [joinO_all hok, if_pos (open_nil fun k hk h3 => hex k (by rwa [smallL_len] at hk) h3)]
  congr 1
  apply List.ext_getElem (by rw [outL_len, smallL_len])
  intro k h1 h2
  have e := outL_get (E := E) (i := E.length) (show k < (smallL l).length by rwa [outL_len] at h1)
  rw [show (outL (smallL l) E E.length).getD k 0 = (outL (smallL l) E E.length)[k] from by simp [List.getD, h1]] at e
  rw [e, show l[k] = l.getD k 0 from by simp [List.getD, h2]]
  by_cases h3 : (smallL l).getD k 0 = 3
  · obtain ⟨j, hj, hjk⟩ := hex k h2 h3
    unfold jOut
    rw [jFind_some hj hjk fun m hmj => by have := jOk_inj hok m j hmj hj; omega]
    exact (hv j hj k hjk).1
  · rw [jOut_not hok h3, smallL_get]
    rw [smallL_get, mn3_ge] at h3
    exact mn3_lt (by omega)
theorem chunksI_flat (l : List Int) : ∀ j, (chunksI l j).flatten = l.take (j * 960)
  | 0 => by simp [chunksI]
  | j + 1 => by
    rw [chunksI_succ, List.flatten_append, chunksI_flat l j, Nat.add_mul, Nat.one_mul, List.take_add]
    simp [chunkI]
theorem chunksI_all (l : List Int) : (chunksI l (bmN l.length)).flatten = l := by
  rw [chunksI_flat, List.take_of_length_le (by unfold bmN; omega)]
set_option maxRecDepth 100000 in
theorem cntsB_same {L : List (List Int)} {q : Nat} {bs : List UInt8} : ∀ n, (q + n) * 256 ≤ bs.length → (cntsB L q bs n).length = bs.length
  | 0, _ => rfl
  | n + 1, h => by
    have ih := cntsB_same (L := L) (q := q) (bs := bs) n (by omega)
    have hx : (sealB 3 ((q + n : Nat) : Int) (bitsB (L.getD n []))).length = 256 := sealB_len (by unfold bitsB; rw [bitsT_len]; decide)
    show (putB (cntsB L q bs n) ((q + n) * 256) (sealB 3 ((q + n : Nat) : Int) (bitsB (L.getD n [])))).length = _
    rw [putB_len (by rw [hx, ih]; omega), ih]
set_option maxRecDepth 100000 in
theorem data_parts {l : List Int} {q N : Nat} {bs : List UInt8} {fuel : Int} (hN : bmN l.length = N) (hq : 1 ≤ q) (hl : l.length ≤ 30000) (h4 : q + plotN l ≤ 14400) (hb : (q + plotN l) * 256 ≤ bs.length) (hfu : (plotN l : Int) ≤ fuel) :
    FoundW ((slotsE (chunksI (smallL l) N) q N).map kvE) (nodN 4 N) (levL 4 N).length (scanW (plotB l q bs).2.2 (plotB l q bs).1 4 fuel) ∧
    FoundW ((overK l l.length).map kvE) (nodN 5 (overK l l.length).length) (levL 5 (overK l l.length).length).length (scanW (plotB l q bs).2.2 (plotB l q bs).2.1 5 fuel) ∧
    (plotB l q bs).2.2.length = bs.length ∧
    ∀ i, i < N → blkB (plotB l q bs).2.2 (q + i) = sealB 3 ((q + i : Nat) : Int) (bitsB (chunkI (smallL l) i)) := by
  have hNl : N ≤ 40 := by unfold bmN at hN; omega
  have hol := overK_len l l.length
  obtain ⟨L, hL⟩ : ∃ L, chunksI (smallL l) N = L := ⟨_, rfl⟩
  obtain ⟨O, hO⟩ : ∃ O, overK l l.length = O := ⟨_, rfl⟩
  have hpn : plotN l = N + nodN 4 N + nodN 5 O.length := by unfold plotN; rw [hN, hO]
  have ES : EntsOk (widN 4 true) (slotsE L q N) := slots_ents _ _ _ (by omega)
  have EO : EntsOk (widN 5 true) O := hO ▸ over_ents _ _ (by omega)
  rw [hO] at hol
  have hcl := cntsB_same (L := L) (q := q) (bs := bs) N (by omega)
  have hP : plotB l q bs = ((treeB 4 (slotsE L q N) (q + N) (cntsB L q bs N)).1, (treeB 5 O (q + N + nodN 4 N) (treeB 4 (slotsE L q N) (q + N) (cntsB L q bs N)).2).1, (treeB 5 O (q + N + nodN 4 N) (treeB 4 (slotsE L q N) (q + N) (cntsB L q bs N)).2).2) := by
    unfold plotB; simp only [hN, hL, hO]
  have hT := treeB_tree (t := 5) (s := 4) (l := O) (e := slotsE L q N) (q := q + N + nodN 4 N) (p := q + N) (bs := cntsB L q bs N) (by decide) (by decide) EO (by decide) (by decide) ES (by rw [hcl]; omega) (by rw [slotsE_len]; exact Nat.le_refl _)
  have k4 := treeB_keep (t := 4) (l := slotsE L q N) (q := q + N) (bs := cntsB L q bs N) (by decide) (by decide) ES (by rw [hcl, slotsE_len]; omega)
  have k5 := treeB_keep (t := 5) (l := O) (q := q + N + nodN 4 N) (bs := (treeB 4 (slotsE L q N) (q + N) (cntsB L q bs N)).2) (by decide) (by decide) EO (by rw [k4.1, hcl]; omega)
  have k6 := treeB_keep (t := 5) (l := O) (q := q + N + nodN 4 N) (bs := cntsB L q bs N) (by decide) (by decide) EO (by rw [hcl]; omega)
  have s4 := treeB_scan (t := 4) (fuel := fuel) (l := slotsE L q N) (q := q + N) (bs := (treeB 5 O (q + N + nodN 4 N) (cntsB L q bs N)).2) (by decide) (by decide) ES (by rw [slotsE_len]; omega) (by omega) (by rw [slotsE_len, k6.1, hcl]; omega) (by rw [slotsE_len]; omega) (by rw [slotsE_len]; omega)
  have s5 := treeB_scan (t := 5) (fuel := fuel) (l := O) (q := q + N + nodN 4 N) (bs := (treeB 4 (slotsE L q N) (q + N) (cntsB L q bs N)).2) (by decide) (by decide) EO (by omega) (by omega) (by rw [k4.1, hcl]; omega) (by omega) (by omega)
  rw [hT, slotsE_len] at s4
  rw [hP, hL, hO]
  refine ⟨s4, s5, by show (treeB 5 O _ _).2.length = _; rw [k5.1, k4.1, hcl], fun i hi => ?_⟩
  show blkB (treeB 5 O _ _).2 _ = _
  rw [k5.2 _ (by omega), k4.2 _ (by omega), cntsB_blk (m := bs.length / 256) (by rw [hcl]) rfl (by omega) hi, ← hL, chunksI_get hi]
theorem small_chunk {l : List Int} (hc : ∀ k, k < l.length → cntOk (l.getD k 0)) (i : Nat) : Small (chunkI (smallL l) i) ∧ (chunkI (smallL l) i).length ≤ 960 := ⟨chunk_small (small_ok hc) i, by rw [chunkI_len]; exact Nat.min_le_left _ _⟩
theorem bitsB_I {l : List Int} (h : Small l) (hl : l.length ≤ 960) : bitI (bitsB l) l.length = l := by
  apply List.ext_getElem (by rw [bitI_len])
  intro i h1 h2
  have e := bitsB_at h (i := i) (by omega)
  rw [show l.getD i 0 = l[i] from by simp [List.getD, h2]] at e
  simp [bitI, bitsL, e]
/-- a block of counts that is there, read -/
theorem data_bits {F : List UInt8} {k : Nat} {c : List Int} (hk : k < F.length / 256) (h4 : k < 14400) (hb : blkB F k = sealB 3 (k : Int) (bitsB c)) (hs : Small c) (hl : c.length ≤ 960) : bitsErr F (k : Int) = 0 ∧ bitR F (k : Int) = c := by
  have h := seal_in (kind := 3) (by decide) (by decide) hk h4 (by unfold bitsB; rw [bitsT_len]) hb
  have he : bitsErr F (k : Int) = 0 := by unfold bitsErr; rw [if_pos h.1, h.2, if_pos (bitsB_ok hs hl)]
  refine ⟨he, ?_⟩
  unfold bitR
  rw [if_pos he, h.2, bitsB_cnt hl, bitsB_I hs hl]
theorem slotX_plc {L : List (List Int)} {q i : Nat} {e : Ent} (h0 : 1 ≤ q) (h1 : q + i ≤ 14399) (hL : (L.getD i []).length ≤ 960) (he : e.2.1 = (slotX L q i).2.1) : plcE e = ((q + i, freeN (L.getD i []), firstN (L.getD i [])), e.2.2, 0) := by
  have h2 : freeN (L.getD i []) ≤ 960 := Nat.le_trans (freeK_le _ _) hL
  have h3 : firstN (L.getD i []) ≤ 960 := Nat.le_trans (firstN_le _) hL
  have e2 : (slotX L q i).2.1 = slB (q + i, freeN (L.getD i []), firstN (L.getD i [])) := rfl
  unfold plcE slotT
  rw [he, e2, slB_ok (x := (q + i, freeN (L.getD i []), firstN (L.getD i []))) (by simp only; omega) h1 h2 h3, slB_val (x := (q + i, freeN (L.getD i []), firstN (L.getD i []))) (by simp only; omega) h1 h2 h3]
  rfl
theorem allO_ne {l : List UInt8} {X : List Plc} {over n fuel : Int} {i : Nat} (hi : i < X.length) (h : (oneI l X n i).2.1 ≠ 0) : (allO l X over n fuel).2.1 ≠ 0 := by
  unfold allO
  cases hf : (List.range X.length).find? (fun i => (oneI l X n i).2.1 != 0) with
  | some j => simpa using List.find?_some hf
  | none =>
    have := List.find?_eq_none.1 hf i (List.mem_range.2 hi)
    simp at this
    exact absurd this h
set_option maxRecDepth 100000 in
/-- counts of data blocks that were written, read with any number -/
theorem data_back {l : List Int} {q : Nat} {bs : List UInt8} {fuel : Int} (hq : 1 ≤ q) (hs : splitE l = 0) (hl : l.length ≤ 30000) (h4 : q + plotN l ≤ 14400) (hb : (q + plotN l) * 256 ≤ bs.length) (hfu : (plotN l : Int) ≤ fuel) :
    dataO (plotB l q bs).2.2 (plotB l q bs).1 (plotB l q bs).2.1 (l.length : Int) fuel = ([], 0, l) ∧ (dataO (plotB l q bs).2.2 (plotB l q bs).1 (plotB l q bs).2.1 ((l.length : Int) + 1) fuel).2.1 ≠ 0 := by
  obtain ⟨N, hN⟩ : ∃ N, bmN l.length = N := ⟨_, rfl⟩
  have hc := (splitE_ok hs).2
  obtain ⟨⟨es, bl, he, -, hw4⟩, ⟨es5, bl5, he5, -, hw5⟩, hF, hB⟩ := data_parts hN hq hl h4 hb hfu
  have hpn : plotN l = N + nodN 4 N + nodN 5 (overK l l.length).length := by unfold plotN; rw [hN]
  obtain ⟨hel, hg⟩ := kv_get he
  rw [slotsE_len] at hel hg
  obtain ⟨F, hFe⟩ : ∃ F, (plotB l q bs).2.2 = F := ⟨_, rfl⟩
  rw [hFe] at hw4 hw5 hF hB ⊢
  have hk : keysOk es = true := keysOk_ok fun i hi => by
    rw [(hg i (by omega)).1, slotsE_get (by omega)]; rfl
  have hX : ∀ i, i < N → (es.map plcE).getD i plc0 = ((q + i, freeN (chunkI (smallL l) i), firstN (chunkI (smallL l) i)), (es.getD i entD).2.2, 0) := fun i hi => by
    have hcl := small_chunk hc i
    have hp := slotX_plc (L := chunksI (smallL l) N) (q := q) (i := i) (e := es.getD i entD) hq (by omega) (by rw [chunksI_get hi]; exact hcl.2) (by rw [(hg i hi).2, slotsE_get hi])
    rw [chunksI_get hi] at hp
    rw [← hp]
    simp [List.getD, show i < es.length by omega]
  have hR : ∀ i, i < N → bitsErr F ((q + i : Nat) : Int) = 0 ∧ bitR F ((q + i : Nat) : Int) = chunkI (smallL l) i := fun i hi => by
    have hcl := small_chunk hc i
    exact data_bits (by rw [hF]; omega) (by omega) (hB i hi) hcl.1 hcl.2
  have h1 : ∀ (n : Int) (i : Nat), i < N → oneI F (es.map plcE) n i = if ((chunkI (smallL l) i).length : Int) ≠ wantI n i then ([(es.getD i entD).2.2], 7, []) else ([], 0, chunkI (smallL l) i) := fun n i hi => by
    unfold oneI oneO
    rw [hX i hi]
    simp only
    rw [(hR i hi).1, (hR i hi).2]
    simp
  have hch : ∀ i, (chunkI (smallL l) i).length = min 960 (l.length - i * 960) := fun i => by rw [chunkI_len, smallL_len]
  have hes : (scanW F (plotB l q bs).1 4 fuel).es = es ∧ (scanW F (plotB l q bs).1 4 fuel).fs = [] := by rw [hw4]; exact ⟨rfl, rfl⟩
  have hes5 : (scanW F (plotB l q bs).2.1 5 fuel).es = es5 ∧ (scanW F (plotB l q bs).2.1 5 fuel).fs = [] := by rw [hw5]; exact ⟨rfl, rfl⟩
  have hml : (es.map plcE).length = N := by rw [List.length_map, hel]
  have hNb : N * 960 < l.length + 960 ∧ l.length ≤ N * 960 := by unfold bmN at hN; omega
  constructor
  · unfold dataO
    rw [if_neg (fun q => q hes.2), hes.1, if_neg (fun q => q (by rw [hel]; unfold bmI; rw [Int.toNat_natCast, hN])), if_neg (by rw [hk]; decide)]
    rw [allO_ok fun i hi => by
      rw [hml] at hi
      rw [h1 _ i hi, if_neg (fun q => q (by rw [hch]; unfold wantI; split <;> omega))]]
    have ha : allL F (es.map plcE) (l.length : Int) (es.map plcE).length = chunksI (smallL l) N := by
      rw [hml]
      unfold allL chunksI
      apply List.map_congr_left
      intro i hi
      have hi := List.mem_range.1 hi
      rw [hX i hi]
      exact (hR i hi).2
    have hfl : (chunksI (smallL l) N).flatten = smallL l := by
      have := chunksI_all (smallL l)
      rwa [smallL_len, hN] at this
    have hj := join_back hc he5
    rw [ha, restO_ok hes5.2 (by rw [hfl, hes5.1, hj]), hfl, hes5.1, hj]
  · unfold dataO
    rw [if_neg (fun q => q hes.2), hes.1]
    by_cases hb2 : es.length = bmI ((l.length : Int) + 1)
    · rw [if_neg (fun q => q hb2), if_neg (by rw [hk]; decide)]
      have hb3 : N = bmN (l.length + 1) := by rw [← hel, hb2]; unfold bmI; congr 1
      unfold bmN at hb3
      refine allO_ne (i := N - 1) (by rw [hml]; omega) ?_
      rw [h1 _ _ (by omega), if_pos]
      · show (7 : Int) ≠ 0; decide
      · rw [hch]; unfold wantI; split <;> omega
    · rw [if_pos hb2]; simp
end Go.Proofs.YthlakkdgcgkcdaaGreat
namespace Go.Proofs.YthlakkdgcgkcdaaGreat
open Go.RowKit Go.Extern.Stop Go.Stop Go.Extern
set_option linter.unusedVariables false
attribute [local irreducible] wpList wpAnyH Code.wp Oper.wp Go

set_option maxRecDepth 100000 in
set_option maxHeartbeats 1000000 in
theorem law23_made (N f : Nat) (w : World) (hN : N ≤ 14400) (h1 : 1 ≤ f) (h2 : f ≤ N) :
    Calls Tryz.prog 7 #[.int .i64 (↑N : Int), .int .i64 (↑f : Int)] w (RetS (fun w' r => ∃ ba b g c pa ca, r = .pointer (some ⟨ba, 0, none⟩) ∧ AlC w.heap.size ba (256 * N) c ca f (N - f) ∧ Al w.heap.size ba b g (256 * N) c pa ca f (N - f) 0 (List.replicate (256 * N) (0 : UInt8)) w') w) := by
 refine zin 17 Tryz.func7 ?_
 refine xwm 8 (256 * (↑N : Int)) (↑(256 * N) : Int) ?_
 refine xmk 0 fun _ _ _ _ zJ zQ zo zx zy zK => op_make (256 * N) (.int .u8 0) 1 1 ((List.replicate (256 * N) (0 : UInt8)).map bv) zo zx zy Tryz.underlying53 (by kernel_rfl) rfl (by omega) (by omega) (zerosB (256 * N)) fun b1 W1 n1 => ?_
 refine zK _ _ ?_
 have o1 := own_of_blk (size := 1) (n := (256 * N)) n1.blk (n1.ge (Below.refl w.heap.size _)) (by rw [List.length_map, List.length_replicate, Nat.mul_one]) (by unfold maxLen; omega)
 refine xc 0 (args := #[.slice (some ⟨b1, 0, none⟩) (256 * N) (256 * N)]) (image_OfN (some ⟨b1, 0, none⟩) (256 * N) (256 * N) (256 * N) (List.replicate (256 * N) (0 : UInt8)) _ List.length_replicate (by omega) (bys_of (own_sl o1) List.length_replicate) (by omega) (Nat.le_refl _)) ?_
 rintro _ W2 ⟨_, rfl, hb2, bi, pi, ci, rfl, gi, ki, hd⟩
 have hd'1 := own_mono hd n1.below.size
 rw [List.take_of_length_le (by rw [List.length_replicate]; omega)] at hd'1
 obtain ⟨g, rfl, hci⟩ := own_someN hd'1 (by omega)
 have hB := Bl.next n1.below hb2
 have hs9 := hB.size
 refine xc 1 (args := #[.pointer (some ⟨bi, 0, none⟩), .int .i64 (↑f : Int)]) (alloc_NewN bi (some ⟨g, 0, none⟩) (256 * N) ci f (N - f) (f : Int) rfl (by omega) _ ki (by omega) h1 (by omega)) ?_
 rintro _ W3 ⟨_, rfl, hb3, ba, pa, ca, rfl, ga, ka, ho⟩
 replace ga := Nat.le_trans hs9 ga
 have ki'1 := ki.below hb3
 have hd'2 := own_below hd'1 hb3
 have ho'1 := own_mono ho hB.size
 have hA : Al w.heap.size ba bi g (256 * N) ci pa ca f (N - f) 0 (List.replicate (256 * N) (0 : UInt8)) _ := ⟨ka, ki'1, hd'2, ho'1⟩
 have hca : N - f ≤ ca := by
   rcases Nat.eq_zero_or_pos (N - f) with q | q
   · omega
   · exact own_cap ho'1 q
 have hC : AlC w.heap.size ba (256 * N) ci ca f (N - f) := ⟨by omega, hci, hca, by omega, ga⟩
 have hB'1 := Bl.next hB hb3
 exact xe 14 (.pointer (some ⟨ba, 0, none⟩)) ⟨_, rfl, hB'1, _, _, _, _, _, _, rfl, hC, hA⟩
theorem madeN23 (N f : Nat) (Ni fi : Int) (hNi : Ni = (N : Int)) (hfi : fi = (f : Int)) (w : World) (hN : N ≤ 14400) (h1 : 1 ≤ f) (h2 : f ≤ N) :
    Calls Tryz.prog 7 #[.int .i64 Ni, .int .i64 fi] w (RetS (fun w' r => ∃ ba b g c pa ca, r = .pointer (some ⟨ba, 0, none⟩) ∧ AlC w.heap.size ba (256 * N) c ca f (N - f) ∧ Al w.heap.size ba b g (256 * N) c pa ca f (N - f) 0 (List.replicate (256 * N) (0 : UInt8)) w') w) := by
  subst hNi hfi; exact law23_made N f w hN h1 h2
/-- chart.Data where what it tells is known -/
theorem chart_DataK (Bi b : Nat) (pi : Option Addr) (ni ci : Nat) (l : List UInt8) (index over n fuel : Int) (m : Nat) (L : List Int) (w : World) (hI : ImgR Bi b pi ni ci l w) (hn : n ≤ 1099511627776) (hfu : fuel ≤ 1000) (hO : dataO l index over n fuel = ([], 0, L)) (hm : L.length = m) :
    Calls Tryz.prog 9 #[.pointer (some ⟨b, 0, none⟩), .int .i64 index, .int .i64 over, .int .i64 n, .int .i64 fuel] w (RetS (fun w' r => ∃ p c, r = .tuple #[.slice p m c, .nilIface] ∧ w'.ownsRow w.heap.size 3 1 (.slice p m c) m (L.map (Value.int .i64))) w) := by
  subst hm
  refine (chart_Data Bi b pi ni ci l index over n fuel w hI hn hfu).mono ?_
  rintro e W q
  rw [hO] at q
  rcases q with ⟨h, _⟩ | ⟨h, p, c, rfl, hb, ho⟩
  · exact absurd rfl h
  · exact ⟨_, rfl, hb, p, c, rfl, ho⟩
theorem ref01_SameM (a b : Option Addr) (n ca cb : Nat) (l : List Int) (w : World) (hn : l.length = n) (ha : Sl w (.slice a n ca) n (l.map (Value.int .i64))) (hb : Sl w (.slice b n cb) n (l.map (Value.int .i64))) : Calls Tryz.prog 11 #[.slice a n ca, .slice b n cb] w (Ret (.bool true) w) := by
  subst hn; exact ref01_Same a b ca cb l w ha hb
def l052 : List Int := [0, 5, 2]
theorem l052_split : splitE l052 = 0 := splitE_good (by decide) fun k hk => by
  have hk' : k < 3 := hk
  obtain rfl | rfl | rfl : k = 0 ∨ k = 1 ∨ k = 2 := by omega
  all_goals decide
theorem nodN4_1 {n : Nat} (h : n ≤ 9) : nodN 4 n = 1 := by
  unfold nodN levL
  have hp := ovN_pos n 9
  rw [show maxN 4 true = 9 from rfl, show ovN n 9 = 1 from by unfold ovN at hp ⊢; omega, levs_one (by decide)]; rfl
theorem l052_N : plotN l052 ≤ 8 := by
  have h5 : nodN 5 (overK l052 l052.length).length = 1 := by
    unfold nodN levL
    rw [show maxN 5 true = 18 from rfl, show (overK l052 l052.length).length = 1 from by decide, levs_one (by decide)]; rfl
  have hb : bmN l052.length = 1 := by decide
  unfold plotN
  rw [hb, nodN4_1 (by decide), h5]; decide
set_option maxRecDepth 100000 in
set_option maxHeartbeats 4000000 in
theorem lives23 (w : World) :
    Calls Tryz.prog 5 #[] w (Ret (.bool true) w) := by
 refine zin 36 Tryz.func5 ?_
 have hs1 : w.heap.size ≤ (w).heap.size := (Below.refl w.heap.size _).size
 refine xc 7 (args := #[.int .i64 9, .int .i64 1]) (madeN23 9 1 (9) (1) (by simp) rfl _ (by decide) (by decide) (by decide)) ?_
 rintro _ W1 ⟨_, rfl, hb1, ba, b, g, c, pa, ca, rfl, hC, hA⟩
 have hs1 := Nat.le_refl w.heap.size
 replace hC := hC.mono hs1
 replace hA := hA.mono hs1
 refine xbs 16 3 [.int .i64 0, .int .i64 5, .int .i64 2] 3 fun b2 W2 n2 => ?_
 have hA'1 := hA.below n2.below
 have hB := Bl.next hb1 n2.below
 refine xc 0 (args := #[.pointer (some ⟨ba, 0, none⟩), .slice (some ⟨b2, 0, none⟩) 3 3]) (plot_Data w.heap.size ba b g _ c pa ca 1 _ 0 (List.replicate (256 * 9) (0 : UInt8)) (some ⟨b2, 0, none⟩) 3 l052 _ hC hA'1 (own_sl (own_of_blk (size := 1) (n := 3) n2.blk (n2.ge hb1) rfl (by decide))) (by decide) l052_split (by decide) (Nat.zero_le _) (by have := l052_N; omega) hB.size) ?_
 rintro _ W3 ⟨rfl, hb3, hO3, hX3, hA⟩
 refine xr 12 (args := #[.pointer (some ⟨ba, 0, none⟩)]) (alloc_Image ba b _ _ _ hA.blkA) fun W4 hb4 => ?_
 have hbk := (data_back (l := l052) (q := 1 + 0) (bs := (List.replicate (256 * 9) (0 : UInt8))) (fuel := 9) (by decide) l052_split (by decide) (by have := l052_N; omega) (by have := l052_N; rw [List.length_replicate]; omega) (by have := l052_N; omega)).1
 have hA'2 := hA.below hb4
 refine xc 2 (args := #[.pointer (some ⟨b, 0, none⟩), .int .i64 ((plotB l052 (1 + 0) (List.replicate (256 * 9) (0 : UInt8))).1), .int .i64 ((plotB l052 (1 + 0) (List.replicate (256 * 9) (0 : UInt8))).2.1), .int .i64 3, .int .i64 9]) (chart_DataK w.heap.size b (some ⟨g, 0, none⟩) (256 * 9) c (plotB l052 (1 + 0) (List.replicate (256 * 9) (0 : UInt8))).2.2 (plotB l052 (1 + 0) (List.replicate (256 * 9) (0 : UInt8))).1 (plotB l052 (1 + 0) (List.replicate (256 * 9) (0 : UInt8))).2.1 3 9 3 l052 _ ⟨hA'2.blkI, hA'2.data, by omega⟩ (by omega) (by decide) hbk rfl) ?_
 rintro _ W5 ⟨_, rfl, hb5, p9, c9, rfl, ho9⟩
 have hs5 := (Bl.next (hB.trans hb3) hb4).size
 refine xbs 17 3 [.int .i64 0, .int .i64 5, .int .i64 2] 3 fun b6 W6 n6 => ?_
 have k2'1 := ((n2.blk.only hO3 (by decide)).below hb4).below hb5
 have d6_b2 := n6.ne k2'1
 have hB'1 := Bl.next (Bl.next (hB.trans hb3) hb4) hb5
 have g6 := n6.ge hB'1
 have ho9'1 := own_mono ho9 hs5
 have r6_ho9 := own_ne ho9'1 n6
 have ho9'2 := own_below ho9'1 n6.below
 refine xr 0 (args := #[.slice p9 3 c9, .slice (some ⟨b6, 0, none⟩) 3 3]) (ref01_SameM p9 (some ⟨b6, 0, none⟩) 3 c9 3 l052 _ rfl (own_sl ho9'2) (own_sl (own_of_blk (size := 1) (n := 3) n6.blk g6 rfl (by decide)))) fun W7 hb7 => ?_
 have hB'2 := Bl.next (Bl.next hB'1 n6.below) hb7
 exact xe 5 (.bool true) ⟨rfl, hB'2⟩
end Go.Proofs.YthlakkdgcgkcdaaGreat
namespace Go.Proofs.YthlakkdgcgkcdaaGreat
open Go.RowKit Go.Extern.Stop Go.Stop Go.Extern
set_option linter.unusedVariables false
attribute [local irreducible] wpList wpAnyH Code.wp Oper.wp Go

set_option maxRecDepth 100000 in
theorem cnts_tree {t : Int} {l : List Ent} {q p : Nat} {L : List (List Int)} {bs : List UInt8} (h1 : 1 ≤ t) (h2 : t ≤ 5) (E : EntsOk (widN t true) l) (hq : q + nodN t l.length ≤ p) : ∀ j, (p + j) * 256 ≤ bs.length → treeB t l q (cntsB L p bs j) = ((treeB t l q bs).1, cntsB L p (treeB t l q bs).2 j)
  | 0, _ => by simp only [cntsB]
  | j + 1, h => by
    have ih := cnts_tree (L := L) (bs := bs) h1 h2 E hq j (by omega)
    have hc := cntsB_same (L := L) (q := p) (bs := bs) j (by omega)
    have hx : (sealB 3 ((p + j : Nat) : Int) (bitsB (L.getD j []))).length = 256 := sealB_len (by unfold bitsB; rw [bitsT_len]; decide)
    rw [show cntsB L p bs (j + 1) = putB (cntsB L p bs j) ((p + j) * 256) (sealB 3 ((p + j : Nat) : Int) (bitsB (L.getD j []))) from rfl, treeB_put h1 h2 E hx (by rw [hc]; omega) (by rw [hc]; omega) (by omega), ih]
    rfl
theorem overK_bump {l : List Int} {f m : Nat} (h : FreeOk l (f : Int)) : ∀ k, k ≤ l.length → overK (bumpL l f m) k = overK l k
  | 0, _ => rfl
  | k + 1, hk => by
    rw [overK_succ, overK_succ, overK_bump h k (by omega)]
    congr 1
    unfold ovX
    rw [bumpL_get (by omega)]
    by_cases hc : f ≤ k ∧ k < f + m
    · have := (h k (by omega)).1 (by omega)
      rw [if_pos hc, this, if_neg (by omega), if_neg (by omega)]
    · rw [if_neg hc, Int.add_zero]
set_option maxRecDepth 100000 in
/-- the blocks' own counts that were written, read -/
theorem meta_back {l : List Int} {u : Nat} {bs : List UInt8} {fuel : Int} (hu : 1 ≤ u) (hs : splitE l = 0) (hf : FreeOk l (u : Int)) (hl : l.length ≤ 3000) (h4 : u + needM l ≤ 14400) (hb : (u + needM l) * 256 ≤ bs.length) (hfu : (needM l : Int) ≤ fuel) :
    metaO (metaB l u 0 bs).2.2 (metaB l u 0 bs).1 (metaB l u 0 bs).2.1 (l.length : Int) fuel = ([], 0, bumpL l u (needM l)) := by
  obtain ⟨N, hN⟩ : ∃ N, bmN l.length = N := ⟨_, rfl⟩
  obtain ⟨O, hO⟩ : ∃ O, overK l l.length = O := ⟨_, rfl⟩
  obtain ⟨T, hT⟩ : ∃ T, nodN 5 O.length = T := ⟨_, rfl⟩
  have hm : needM l = T + N + 1 := by unfold needM; rw [hN, hO, hT]
  obtain ⟨B, hB⟩ : ∃ B, bumpL l u (needM l) = B := ⟨_, rfl⟩
  have hBl : B.length = l.length := by rw [← hB, bumpL_len]
  have hOB : overK B B.length = O := by rw [hBl, ← hB, overK_bump hf _ (Nat.le_refl _), hO]
  have hcB : ∀ k, k < B.length → cntOk (B.getD k 0) := by rw [← hB]; exact bumpL_ok hf (splitE_ok hs).2
  obtain ⟨C, hC⟩ : ∃ C, chunksI (smallL B) N = C := ⟨_, rfl⟩
  obtain ⟨R, hR⟩ : ∃ R, Rs C (u + T) N = R := ⟨_, rfl⟩
  obtain ⟨X, hX⟩ : ∃ X, sealB 4 ((u + T + N : Nat) : Int) (idxB R) = X := ⟨_, rfl⟩
  have hNl : N ≤ 4 := by unfold bmN at hN; omega
  have hol : O.length ≤ l.length := by rw [← hO]; exact overK_len _ _
  have hP : metaB l u 0 bs = (((u + T + N : Nat) : Int), (treeB 5 O u bs).1, putB (cntsB C (u + T) (treeB 5 O u bs).2 N) ((u + T + N) * 256) X) := by
    unfold metaB
    simp only [Nat.add_zero, hB, hBl, hN, hO, hT, hC, hR, hX]
  have EO : EntsOk (widN 5 true) O := hO ▸ over_ents _ _ (by omega)
  have hCi : ∀ i, i < N → C.getD i [] = chunkI (smallL B) i := fun i hi => by rw [← hC, chunksI_get hi]
  have hsc := small_chunk hcB
  have hRi : ∀ i, i < N → R.getD i rsD = (u + T + i, freeN (chunkI (smallL B) i), firstN (chunkI (smallL B) i)) := fun i hi => by rw [← hR, Rs_get hi, hCi i hi]
  have hRl : R.length = N := by rw [← hR, Rs_len]
  have hSl : SlotsOk R := ⟨by omega, fun i hi => by
    rw [hRl] at hi
    rw [hRi i hi]
    have h1 := (hsc i).2
    exact ⟨by show 1 ≤ u + T + i; omega, by show u + T + i ≤ 14399; omega, Nat.le_trans (freeK_le _ _) h1, Nat.le_trans (firstN_le _) h1⟩⟩
  have hil : (idxB R).length = 244 := idxB_len (by omega)
  have hXl : X.length = 256 := by rw [← hX]; exact sealB_len (by omega)
  have hTr := treeB_keep (t := 5) (l := O) (q := u) (bs := bs) (by decide) (by decide) EO (by rw [hT]; omega)
  have hc1 := cntsB_same (L := C) (q := u + T) (bs := bs) N (by omega)
  have hc2 := cntsB_same (L := C) (q := u + T) (bs := (treeB 5 O u bs).2) N (by rw [hTr.1]; omega)
  have hpl : (putB (cntsB C (u + T) bs N) ((u + T + N) * 256) X).length = bs.length := by rw [putB_len (by rw [hXl, hc1]; omega), hc1]
  have hcm : treeB 5 O u (putB (cntsB C (u + T) bs N) ((u + T + N) * 256) X) = ((treeB 5 O u bs).1, putB (cntsB C (u + T) (treeB 5 O u bs).2 N) ((u + T + N) * 256) X) := by
    rw [treeB_put (by decide) (by decide) EO hXl (by rw [hc1, hT]; omega) (by rw [hc1]; omega) (by rw [hT]; omega), cnts_tree (by decide) (by decide) EO (by rw [hT]; exact Nat.le_refl _) N (by omega)]
  have s5 := treeB_scan (t := 5) (fuel := fuel) (l := O) (q := u) (bs := putB (cntsB C (u + T) bs N) ((u + T + N) * 256) X) (by decide) (by decide) EO (by omega) hu (by rw [hpl, hT]; omega) (by rw [hT]; omega) (by rw [hT]; omega)
  rw [hcm] at s5
  rw [hP]
  obtain ⟨es5, bl5, he5, -, hw5⟩ := s5
  simp only at hw5 ⊢
  obtain ⟨F, hF⟩ : ∃ F, putB (cntsB C (u + T) (treeB 5 O u bs).2 N) ((u + T + N) * 256) X = F := ⟨_, rfl⟩
  have hFl : F.length = bs.length := by rw [← hF, putB_len (by rw [hXl, hc2, hTr.1]; omega), hc2, hTr.1]
  have hid := seal_in (l := F) (kind := 4) (k := u + T + N) (li := idxB R) (by decide) (by decide) (by rw [hFl]; omega) (by omega) hil (by rw [← hF, hX]; exact blkB_put hXl (by rw [hc2, hTr.1]; omega))
  have hbk : ∀ i, i < N → bitsErr F ((u + T + i : Nat) : Int) = 0 ∧ bitR F ((u + T + i : Nat) : Int) = chunkI (smallL B) i := fun i hi => by
    refine data_bits (by rw [hFl]; omega) (by omega) ?_ (hsc i).1 (hsc i).2
    rw [← hF, blkB_put_other (k := u + T + N) hXl (by rw [hc2, hTr.1]; omega) (by omega) (by rw [hc2, hTr.1]; omega), cntsB_blk (m := bs.length / 256) (by rw [hc2, hTr.1]) (by rw [hTr.1]) (by omega) hi, hCi i hi]
  rw [hF] at hw5 ⊢
  have hie : idxErr F ((u + T + N : Nat) : Int) = 0 := by unfold idxErr; rw [if_pos hid.1, hid.2]; exact (idxB_read hSl).1
  have hir : idxR F ((u + T + N : Nat) : Int) = R := by rw [(idxR_ok hie).1, hid.2, idxB_cnt (by omega)]; exact (idxB_read hSl).2
  have hXi : ∀ i, i < N → (R.map (plcS ((u + T + N : Nat) : Int))).getD i plc0 = ((u + T + i, freeN (chunkI (smallL B) i), firstN (chunkI (smallL B) i)), ((u + T + N : Nat) : Int), 0) := fun i hi => by
    have e := hRi i hi
    rw [show R.getD i rsD = R[i]'(by omega) from by simp [List.getD, show i < R.length by omega]] at e
    simp only [List.getD, List.getElem?_map, List.getElem?_eq_getElem (show i < R.length by omega), Option.map_some, Option.getD_some, e]
    rfl
  have h1 : ∀ i, i < N → oneI F (R.map (plcS ((u + T + N : Nat) : Int))) (l.length : Int) i = if ((chunkI (smallL B) i).length : Int) ≠ wantI (l.length : Int) i then ([((u + T + N : Nat) : Int)], 7, []) else ([], 0, chunkI (smallL B) i) := fun i hi => by
    unfold oneI oneO
    rw [hXi i hi]
    simp only
    rw [(hbk i hi).1, (hbk i hi).2]
    simp
  have hch : ∀ i, (chunkI (smallL B) i).length = min 960 (l.length - i * 960) := fun i => by rw [chunkI_len, smallL_len, hBl]
  have hes5 : (scanW F (treeB 5 O u bs).1 5 fuel).es = es5 ∧ (scanW F (treeB 5 O u bs).1 5 fuel).fs = [] := by rw [hw5]; exact ⟨rfl, rfl⟩
  have hml : (R.map (plcS ((u + T + N : Nat) : Int))).length = N := by rw [List.length_map, hRl]
  have hNb : N * 960 < l.length + 960 ∧ l.length ≤ N * 960 := by unfold bmN at hN; omega
  unfold metaO
  rw [if_neg (fun q => q hie), hir, if_neg (fun q => q (by rw [hRl]; unfold bmI; rw [Int.toNat_natCast, hN]))]
  rw [allO_ok fun i hi => by
    rw [hml] at hi
    rw [h1 i hi, if_neg (fun q => q (by rw [hch]; unfold wantI; split <;> omega))]]
  have ha : allL F (R.map (plcS ((u + T + N : Nat) : Int))) (l.length : Int) (R.map (plcS ((u + T + N : Nat) : Int))).length = C := by
    rw [hml, ← hC]
    unfold allL chunksI
    apply List.map_congr_left
    intro i hi
    have hi := List.mem_range.1 hi
    rw [hXi i hi]
    exact (hbk i hi).2
  have hfl : C.flatten = smallL B := by
    have := chunksI_all (smallL B)
    rwa [smallL_len, hBl, hN, hC] at this
  have hj := join_back (E := es5) hcB (by rw [hOB]; exact he5)
  rw [ha, restO_ok hes5.2 (by rw [hfl, hes5.1, hj]), hfl, hes5.1, hj, hB]
end Go.Proofs.YthlakkdgcgkcdaaGreat
namespace Go.Proofs.YthlakkdgcgkcdaaGreat
open Go.RowKit Go.Extern.Stop Go.Stop Go.Extern
set_option linter.unusedVariables false
attribute [local irreducible] wpList wpAnyH Code.wp Oper.wp Go

theorem plot_layMN (B ba b g nn cc : Nat) (pa : Option Addr) (ca f N k0 : Nat) (bs : List UInt8) (bl B2 : Nat) (pl : Option Addr) (cl : Nat) (gs : List (Nat × Nat)) (L : List (List Int)) (n : Nat) (hn : L.length = n) (w : World) (hC : AlC B ba nn cc ca f N) (hA : Al B ba b g nn cc pa ca f N k0 bs w) (hL : Lists w B2 (.slice pl n cl) gs L) (hS : ∀ i, i < L.length → Small (L.getD i []) ∧ (L.getD i []).length ≤ 960) (hf1 : 1 ≤ f) (hk : k0 + n ≤ N) (kl : Blk w bl [.slice none 0 0] 80) (hBl : B ≤ bl) (hBw : B ≤ w.heap.size) :
    Calls Tryz.prog 22 #[.pointer (some ⟨ba, 0, none⟩), .slice pl n cl, .func (.func 34) #[] #[.pointer (some ⟨bl, 0, none⟩)]] w (fun e w' => ∃ p c, e = .returned .nilIface ∧ Below B w w' ∧ Only [78, 5, 80, 57] w w' ∧ Fr ([ba, g] ++ [bl]) w w' ∧ Al B ba b g nn cc pa ca f N (k0 + n) (cntsB L (f + k0) bs n) w' ∧ Blk w' bl [.slice p n c] 80 ∧ w'.ownsRow w.heap.size 57 3 (.slice p n c) n (rsL L (f + k0) n)) := by
  subst hn; exact plot_layM B ba b g nn cc pa ca f N k0 bs bl B2 pl cl gs L w hC hA hL hS hf1 hk kl hBl hBw
def MetaP (B ba b g nn cc : Nat) (pa : Option Addr) (ca f N k0 : Nat) (bs : List UInt8) (l : List Int) (w : World) (e : Ending) (w' : World) : Prop :=
  e = .returned (.tuple #[.int .i64 (metaB l f k0 bs).1, .int .i64 (metaB l f k0 bs).2.1, .nilIface]) ∧ Below B w w' ∧ Only [78, 5, 80, 57, 32] w w' ∧ Fr [ba, g] w w' ∧ Al B ba b g nn cc pa ca f N (k0 + needM l) (metaB l f k0 bs).2.2 w'
set_option maxRecDepth 100000 in
set_option maxHeartbeats 8000000 in
theorem plot_Meta (B ba b g nn cc : Nat) (pa : Option Addr) (ca f N k0 : Nat) (bs : List UInt8) (a : Addr) (c : Nat) (l : List Int) (w : World) (hC : AlC B ba nn cc ca f N) (hA : Al B ba b g nn cc pa ca f N k0 bs w) (h : Sl w (.slice (some a) l.length c) l.length (l.map (Value.int .i64))) (hl : l.length ≤ 3000) (hlen : l.length = nn / 256) (hs : splitE l = 0) (hkN : k0 ≤ N) (hk : k0 + needM l ≤ N) (hf1 : 1 ≤ f) (hfree : FreeOk l (f : Int)) (hfree2 : FreeOk l ((f + k0 : Nat) : Int)) (hBw : B ≤ w.heap.size) :
    Calls Tryz.prog 12 #[.pointer (some ⟨ba, 0, none⟩), .slice (some a) l.length c] w (MetaP B ba b g nn cc pa ca f N k0 bs l w) := by
 have hW : Sin w w := ⟨Below.refl _ _⟩
 have hcf := hC.hf
 have hcn := hC.hn
 have hsp := splitE_ok hs
 have hol := overK_len l l.length
 have hpn : needM l = (nodN 5 (overK l l.length).length) + (bmN l.length) + 1 := rfl
 have hn5 := nodN_le 5 (overK l l.length).length
 have hnb : bmN l.length ≤ 4 := by unfold bmN; omega
 have hsB : splitE (bumpL l (f + k0) (needM l)) = 0 := by unfold splitE; rw [if_neg (by rw [bumpL_len]; omega), if_pos (bumpL_ok hfree2 hsp.2)]
 have hcs := chunks_small (bumpL_ok (n := needM l) hfree2 hsp.2) (bmN l.length)
 refine zin 120 Tryz.func12 ?_
 refine xr 10 (args := #[.pointer (some ⟨ba, 0, none⟩)]) (alloc_Image ba b _ _ _ (hA.below hW.b).blkA) fun W1 hb1 => ?_
 have hW'1 := hW.below hb1
 refine xr 19 (args := #[.pointer (some ⟨b, 0, none⟩)]) (image_Blocks b _ nn cc _ (hA.below hW'1.b).blkI (by omega)) fun W2 hb2 => ?_
 refine xk 3 (show (((↑l.length : Int) != (↑(nn / 256) : Int)) : Bool) = false from by rw [hlen]; simp) ?_
 have hW'2 := hW'1.below hb2
 refine xc 5 (args := #[.slice (some a) l.length c]) (tally_SplitN l.length (some a) c l _ rfl (Sl.below h hW'2.b) (by omega) hs) ?_
 rintro _ W3 ⟨pb0, cb0, gs0, po, co, rfl, hb3, hL0, hov⟩
 have hs3 := (Bl.nextB (Bl.nextB (Below.refl B w) hBw hb1) hBw hb2).size
 refine xr 23 (args := #[.int .i64 5, .int .i64 (↑((overK l l.length).length) : Int)]) (tall_Nodes 5 (overK l l.length).length _ (by decide) (by decide) (by omega)) fun W4 hb4 => ?_
 refine xr 2 (args := #[.int .i64 (↑l.length : Int)]) (size_Bitmaps l.length _ (by omega)) fun W5 hb5 => ?_
 refine xwm 0 ((↑(nodN 5 (overK l l.length).length) : Int) + (↑(bmN l.length) : Int)) (↑((nodN 5 (overK l l.length).length) + (bmN l.length)) : Int) ?_
 refine xwm 0 ((↑((nodN 5 (overK l l.length).length) + (bmN l.length)) : Int) + 1) (↑(((nodN 5 (overK l l.length).length) + (bmN l.length)) + 1) : Int) ?_
 have hW'3 := ((hW'2.below hb3).below hb4).below hb5
 refine xr 7 (args := #[.pointer (some ⟨ba, 0, none⟩)]) (alloc_Left ba b pa N ca k0 _ (hA.below hW'3.b).blkA hkN) fun W6 hb6 => ?_
 refine xk 4 (show (decide ((↑(N - k0) : Int) < (↑(((nodN 5 (overK l l.length).length) + (bmN l.length)) + 1) : Int)) : Bool) = false from decide_eq_false (by omega)) ?_
 have hW'4 := hW'3.below hb6
 have hsc := hW'4.b.size
 refine xc 5 (args := #[.slice (some a) l.length c]) (clone_cnt a l.length c (l.map (Value.int .i64)) _ (Sl.below h hW'4.b) (by simp) (ints_one _) (by omega)) ?_
 rintro _ W7 ⟨_, rfl, hb7, qb, cq, rfl, hbm0⟩
 have hs7 := (Bl.nextB (Bl.nextB (Bl.nextB (Bl.nextB (Bl.nextB (Bl.nextB (Below.refl B w) hBw hb1) hBw hb2) hBw hb3) hBw hb4) hBw hb5) hBw hb6).size
 have hbm := own_mono hbm0 hsc
 have hW'5 := hW'4.below hb7
 have hsw := hW'5.b.size
 have hbm1 := hbm
 refine xc 8 (args := #[.pointer (some ⟨ba, 0, none⟩), .int .i64 (↑(((nodN 5 (overK l l.length).length) + (bmN l.length)) + 1) : Int)]) (alloc_AheadN (needM l) B ba b g nn cc pa ca f N k0 bs _ hC (hA.below hW'5.b) hkN (by omega) (by omega) (by omega)) ?_
 rintro _ W8 ⟨_, rfl, hb8, qa, ca2, rfl, hah0⟩
 have hs8 := (Bl.nextB (Bl.nextB (Bl.nextB (Bl.nextB (Bl.nextB (Bl.nextB (Bl.nextB (Below.refl B w) hBw hb1) hBw hb2) hBw hb3) hBw hb4) hBw hb5) hBw hb6) hBw hb7).size
 have hAp := Apart.of_lt hbm1 hah0 (Nat.le_refl _)
 have hah := own_mono hah0 hsw
 have hbm'1 := own_below hbm hb8
 obtain ⟨gb, rfl, hgc⟩ := own_someN hbm'1 (by omega)
 have hov'1 := own_below (own_below (own_below (own_below (own_below (own_mono hov hs3) hb4) hb5) hb6) hb7) hb8
 have hW'6 := hW'5.below hb8
 have hB := Bl.nextB (Bl.nextB (Bl.nextB (Bl.nextB (Bl.nextB (Bl.nextB (Bl.nextB (Bl.nextB (Below.refl B w) hBw hb1) hBw hb2) hBw hb3) hBw hb4) hBw hb5) hBw hb6) hBw hb7) hBw hb8
 have hX := (((((((show Fr [ba, g] w _ from (Fr.of_below hb1)).trans (Fr.of_below hb2)).trans (Fr.of_below hb3)).trans (Fr.of_below hb4)).trans (Fr.of_below hb5)).trans (Fr.of_below hb6)).trans (Fr.of_below hb7)).trans (Fr.of_below hb8)
 have hO := (((((((show Only [78, 5, 80, 57, 32] w _ from (Only.of_below hb1)).trans (Only.of_below hb2)).trans (Only.of_below hb3)).trans (Only.of_below hb4)).trans (Only.of_below hb5)).trans (Only.of_below hb6)).trans (Only.of_below hb7)).trans (Only.of_below hb8)
 refine zl 5 120 (fun zm zkv V => ∃ (i : Nat), zkv = [(0, .pointer (some ⟨ba, 0, none⟩)), (4, .int .i64 0), (5, .int .i64 0), (6, .nilIface), (9, .slice po ((overK l l.length).length) co), (10, .int .i64 0), (12, .slice (some ⟨gb, 0, none⟩) l.length cq), (61, .slice qa (needM l) ca2), (62, .int .i64 (↑(needM l) : Int)), (63, .int .i64 (↑i : Int))] ∧ zm = needM l - ((↑i : Int)).toNat ∧ Below B w V ∧ Fr [ba, g] w V ∧ Only [78, 5, 80, 57, 32] w V ∧ V.ownsRow w.heap.size 3 1 (.slice (some ⟨gb, 0, none⟩) l.length cq) l.length ((bumpL l (f + k0) i).map (Value.int .i64)) ∧ V.ownsRow w.heap.size 3 1 (.slice qa (needM l) ca2) (needM l) ((((rngJ f N).drop k0).take (needM l)).map (Value.int .i64)) ∧ V.ownsRow w.heap.size 45 3 (.slice po ((overK l l.length).length) co) ((overK l l.length).length) ((overK l l.length).flatMap entC) ∧ Sin w V ∧ i ≤ needM l) ⟨0, rfl, rfl, hB, hX, hO, (by rw [bumpL_zero]; exact hbm'1), hah, hov'1, hW'6, Nat.zero_le _⟩ ?_
 rintro _ _ W9 ⟨i, rfl, rfl, hB_9, hX_9, hO_9, hbm, hah, hov, hW, hi⟩ J9 hJ9 r9
 have hz0 : i < needM l → l.getD (f + k0 + i) 0 = 0 := fun q => (hfree (f + k0 + i) (by omega)).1 (by omega)
 refine xid 6 ((↑i : Int) < (↑(needM l) : Int)) (fun hc10 => ?_) (fun hc10 => ?_)
 · refine xx 6 _ (needM l) i 1 (ahead_elem (own_sl hah) (by omega) (i := i) (by omega)).1 ?_
   refine xl 0 ((ahead_elem (own_sl hah) (by omega) (i := i) (by omega)).2) ?_
   refine xx 6 _ l.length (f + k0 + i) 1 (bump_elem (own_sl hbm) rfl (q := f + k0) (i := i) (by omega)).1 ?_
   refine xl 0 ((bump_elem (own_sl hbm) rfl (q := f + k0) (i := i) (by omega)).2) ?_
   refine xw 0 ((l.getD (f + k0 + i) 0) + 1) ?_
   refine xx 0 _ l.length (f + k0 + i) 1 (bump_elem (own_sl hbm) rfl (q := f + k0) (i := i) (by omega)).1 ?_
   refine xst 0 fun _ _ _ _ zJ zQ zo zx zy zK => op_storeRow (t := 3) (k := (f + k0 + i)) (v := .int .i64 ((l.getD (f + k0 + i) 0) + 1)) zo zx zy (by kernel_rfl) rfl hbm (by omega) fun W11 u11 o11 => ?_
   rw [bumpL_set (l := l) (f := f + k0) (j := i) (by omega)] at o11
   refine zK _ _ ?_
   refine xwm 4 ((↑i : Int) + 1) (↑(i + 1) : Int) ?_
   have hB'1 := u11.below hB_9 (Nat.le_trans hBw (own_ge hbm))
   have hX'1 := (Fr.upd_new hX_9 u11 (own_ge hbm))
   have hO'1 := (Only.upd_new hO_9 u11 (own_ge hbm))
   have hah'1 := u11.own3 hah (fun j hj e => hAp _ rfl (e ▸ hj))
   have hov'2 := u11.ownRow hov hbm (by decide)
   have hW'7 := hW.upd u11 (own_ge hbm)
   exact ze 2 (hJ9 _ _ _ ⟨i + 1, rfl, rfl, hB'1, hX'1, hO'1, o11, hah'1, hov'2, hW'7, by omega⟩ (by omega))
 refine xc 9 (args := #[.pointer (some ⟨ba, 0, none⟩), .int .i64 5, .slice po ((overK l l.length).length) co]) (build_TreeN B ba b g nn cc pa ca f N k0 bs 5 po co (overK l l.length) (overK l l.length).length _ rfl hC (hA.below hW.b) (by decide) (by decide) (over_ents _ _ (by omega)) (by omega) hf1 (by omega) (by omega) (fun W _ h2 => own_sl (own_only hov h2 (by decide))) (Nat.le_trans hBw hB_9.size)) ?_
 rintro _ W12 ⟨rfl, hb12, hO12, hX12, hA2⟩
 have hbm'2 := own_only hbm hO12 (by decide)
 refine xc 20 (args := #[.slice (some ⟨gb, 0, none⟩) l.length cq]) (tally_SplitN l.length (some ⟨gb, 0, none⟩) cq (bumpL l (f + k0) (needM l)) _ (bumpL_len _ _ _) (by have hh := own_sl hbm'2; rw [show i = needM l by omega] at hh; exact hh) (by omega) hsB) ?_
 rintro _ W13 ⟨pb, cb, gs, po3, co3, rfl, hb13, hL, hov3⟩
 refine xa 21 [.slice none 0 0] 80 fun b14 W14 n14 => ?_
 have hB'2 := Bl.nextB (hB_9.trans hb12) hBw hb13
 have g14 := n14.ge0 hB'2
 have hA2'1 := (hA2.below hb13).below n14.below
 have hL'1 := hL.below n14.below
 have hB'3 := Bl.nextB hB'2 hBw n14.below
 refine xc 8 (args := #[.pointer (some ⟨ba, 0, none⟩), .slice pb (bmN l.length) cb, .func (.func 34) #[] #[.pointer (some ⟨b14, 0, none⟩)]]) (plot_layMN B ba b g nn cc pa ca f N (k0 + (nodN 5 (overK l l.length).length)) (treeB 5 (overK l l.length) (f + k0) bs).2 b14 _ pb cb gs (chunksI (smallL (bumpL l (f + k0) (needM l))) (bmN l.length)) (bmN l.length) (chunksI_len _ _) _ hC hA2'1 hL'1 hcs hf1 (by omega) n14.blk (Nat.le_trans hBw g14) (Nat.le_trans hBw hB'3.size)) ?_
 rintro _ W15 ⟨p8, c8, rfl, hb15, hO15, hX15, hA2, kln, hsl⟩
 have hs15 := (Bl.nextB hB'2 hBw n14.below).size
 refine xb 14 0 kln ?_
 have hsl'1 := own_mono hsl hs15
 refine xc 0 (args := #[.slice p8 (bmN l.length) c8]) (slots_PutN (bmN l.length) p8 c8 (Rs (chunksI (smallL (bumpL l (f + k0) (needM l))) (bmN l.length)) (f + (k0 + (nodN 5 (overK l l.length).length))) (bmN l.length)) _ (Rs_len _ _ _) (rs_ok hcs (chunksI_len _ _) (by omega) (by omega) (by omega)) (Rs_sts (own_sl hsl'1))) ?_
 rintro _ W16 ⟨_, rfl, hb16, pz, cz, rfl, hkb⟩
 have hs16 := (hB'3.trans hb15).size
 have hA2'2 := hA2.below hb16
 have hO'2 := ((((hO_9.trans (hO12.wide)).trans (Only.of_below hb13)).trans (Only.of_below n14.below)).trans (hO15.wide)).trans (Only.of_below hb16)
 have hkb'1 := own_mono hkb hs16
 have hB'4 := Bl.nextB (hB'3.trans hb15) hBw hb16
 refine xc 21 (args := #[.pointer (some ⟨ba, 0, none⟩), .int .i64 4, .slice pz 244 cz]) (alloc_LayQ B ba b g nn cc pa ca f N (k0 + (nodN 5 (overK l l.length).length) + (bmN l.length)) (cntsB (chunksI (smallL (bumpL l (f + k0) (needM l))) (bmN l.length)) (f + (k0 + (nodN 5 (overK l l.length).length))) (treeB 5 (overK l l.length) (f + k0) bs).2 (bmN l.length)) 4 pz cz (idxB (Rs (chunksI (smallL (bumpL l (f + k0) (needM l))) (bmN l.length)) (f + (k0 + (nodN 5 (overK l l.length).length))) (bmN l.length))) (f + (k0 + (nodN 5 (overK l l.length).length) + (bmN l.length))) 244 _ rfl (idxB_len (by rw [Rs_len]; omega)) hC hA2'2 (by omega) (by decide) (by decide) (fun W _ hO'2 => bys_of (own_sl (own_only hkb'1 hO'2 (by decide))) (idxB_len (by rw [Rs_len]; omega))) (by decide) (Nat.le_trans hBw hB'4.size)) ?_
 rintro _ W17 ⟨rfl, hb17, hO17, hX17, hA2⟩
 have hB'5 := hB'4.trans hb17
 have hO'3 := hO'2.trans (hO17.wide)
 have hX'2 := ((Fr.trans_new (((hX_9.trans (hX12.mono (by simp))).trans (Fr.of_below hb13)).trans (Fr.of_below n14.below)) hX15 g14).trans (Fr.of_below hb16)).trans (hX17.mono (by simp))
 refine xe 27 (.tuple #[.int .i64 (↑(f + (k0 + (nodN 5 (overK l l.length).length) + (bmN l.length))) : Int), .int .i64 ((treeB 5 (overK l l.length) (f + k0) bs).1), .nilIface]) ?_
 have e1 : f + (k0 + (nodN 5 (overK l l.length).length) + (bmN l.length)) = f + k0 + (nodN 5 (overK l l.length).length) + (bmN l.length) := by omega
 have e2 : f + (k0 + (nodN 5 (overK l l.length).length)) = f + k0 + (nodN 5 (overK l l.length).length) := by omega
 rw [e1, e2] at hA2
 rw [e1]
 have e3 : k0 + (nodN 5 (overK l l.length).length) + (bmN l.length) + 1 = k0 + needM l := by omega
 rw [e3] at hA2
 refine ⟨?_, hB'5, hO'3, hX'2, ?_⟩
 · unfold metaB; rw [needM_nb]
 · unfold metaB; rw [needM_nb]; exact hA2
end Go.Proofs.YthlakkdgcgkcdaaGreat
namespace Go.Proofs.YthlakkdgcgkcdaaGreat
open Go.RowKit Go.Extern.Stop Go.Stop Go.Extern
set_option linter.unusedVariables false
attribute [local irreducible] wpList wpAnyH Code.wp Oper.wp Go

theorem and2047c (x : Int) : ∃ n : Nat, IntKind.i64.wrap (↑(BitVec.ofInt 64 x &&& BitVec.ofInt 64 (2047 : Int)).toNat : Int) = (n : Int) ∧ n ≤ 2047 := by
  refine ⟨(BitVec.ofInt 64 x &&& BitVec.ofInt 64 (2047 : Int)).toNat, ?_, ?_⟩
  · have h : (BitVec.ofInt 64 x &&& BitVec.ofInt 64 (2047 : Int)).toNat ≤ 2047 := by rw [BitVec.toNat_and]; exact Nat.and_le_right
    exact i64_nat (by omega)
  · rw [BitVec.toNat_and]; exact Nat.and_le_right
def lowI (x : Int) : Int := IntKind.i64.wrap (↑(BitVec.ofInt 64 x &&& BitVec.ofInt 64 (65535 : Int)).toNat : Int)
theorem lowI_bd (x : Int) : 0 ≤ lowI x ∧ lowI x ≤ 65535 := by
  have h : (BitVec.ofInt 64 x &&& BitVec.ofInt 64 (65535 : Int)).toNat ≤ 65535 := by rw [BitVec.toNat_and]; exact Nat.and_le_right
  unfold lowI
  rw [i64_nat (by omega)]
  omega
/-- the counts' low bits at the first places, 0 behind them -/
def cutL (l : List Int) (i n : Nat) : List Int := (List.range n).map fun k => if k < i then lowI (l.getD k 0) else 0
theorem cutL_len (l : List Int) (i n : Nat) : (cutL l i n).length = n := by simp [cutL]
theorem cutL_get {l : List Int} {i n k : Nat} (h : k < n) : (cutL l i n).getD k 0 = if k < i then lowI (l.getD k 0) else 0 := by simp [cutL, List.getD, List.getElem?_range h]
theorem cutL_bd (l : List Int) (i n k : Nat) : 0 ≤ (cutL l i n).getD k 0 ∧ (cutL l i n).getD k 0 ≤ 65535 ∧ (i ≤ k → (cutL l i n).getD k 0 = 0) := by
  by_cases h : k < n
  · rw [cutL_get h]
    have := lowI_bd (l.getD k 0)
    by_cases q : k < i
    · rw [if_pos q]; exact ⟨this.1, this.2, fun r => absurd r (by omega)⟩
    · rw [if_neg q]; exact ⟨by omega, by omega, fun _ => rfl⟩
  · rw [show (cutL l i n).getD k 0 = 0 from by simp [cutL, List.getD, Nat.le_of_not_lt h]]; exact ⟨by omega, by omega, fun _ => rfl⟩
theorem cut_make (l : List Int) (n : Nat) : zeros (Value.int .i64 0).cells.toList n = (cutL l 0 n).map (Value.int .i64) := by
  rw [show zeros (Value.int .i64 0).cells.toList n = List.replicate n (.int .i64 0) from by
    rw [show (Value.int .i64 0).cells.toList = [Value.int .i64 0] from rfl, zeros]
    induction n with
    | zero => rfl
    | succ n ih => rw [List.replicate_succ, List.flatten_cons, ih]; rfl]
  apply List.ext_getElem (by simp [cutL])
  intro i h1 h2
  simp [cutL]
theorem cut_set {l : List Int} {i n : Nat} (h : i < n) : ((cutL l i n).map (Value.int .i64)).set i (.int .i64 (lowI (l.getD i 0))) = (cutL l (i + 1) n).map (Value.int .i64) := by
  apply List.ext_getElem?
  intro j
  by_cases hj : j < n
  · by_cases e : i = j
    · subst e
      rw [List.getElem?_set_self (by simp [cutL]; exact h)]
      simp [cutL, List.getElem?_range h]
    · rw [List.getElem?_set_ne e]
      simp only [cutL, List.getElem?_map, List.getElem?_range hj, Option.map_some]
      by_cases q : j < i
      · rw [if_pos q, if_pos (by omega)]
      · rw [if_neg q, if_neg (by omega)]
  · rw [List.getElem?_eq_none (by simp [cutL]; omega), List.getElem?_eq_none (by simp [cutL]; omega)]
theorem cut_free (l : List Int) (n : Nat) : FreeOk (cutL l l.length n) (l.length : Int) := fun i hi => by
  have := cutL_bd l l.length n i
  exact ⟨fun h => this.2.2 (by omega), by omega⟩
theorem cut_split (l : List Int) {n : Nat} (hn : n ≤ 3000) : splitE (cutL l l.length n) = 0 := splitE_good (by rw [cutL_len]; omega) fun k hk => by
  have := cutL_bd l l.length n k
  unfold cntOk; omega
theorem overK_few {l : List Int} {m : Nat} (h : ∀ k, m ≤ k → l.getD k 0 < 3) : ∀ k, (overK l k).length ≤ min k m
  | 0 => by simp [overK]
  | k + 1 => by
    have ih := overK_few h k
    by_cases h3 : 3 ≤ l.getD k 0
    · have hk : ¬ m ≤ k := fun q => by have := h k q; omega
      rw [overK_yes h3, List.length_append, List.length_singleton]; omega
    · rw [overK_no h3]; omega
theorem nodN5_20 {x : Nat} (h : x ≤ 20) : nodN 5 x ≤ 3 := by
  have hp := ovN_pos x 18
  have h2 : ovN x 18 ≤ 2 := by unfold ovN; omega
  unfold nodN levL
  rw [show maxN 5 true = 18 from rfl]
  by_cases h1 : ovN x 18 ≤ 1
  · rw [levs_one h1]; simp; omega
  · rw [levs_more h1, List.sum_cons, show ovN (ovN x 18) 18 = 1 from by rw [show ovN x 18 = 2 by omega]; rfl, levs_one (by decide)]
    simp; omega
theorem cut_need {l : List Int} {n : Nat} (hl : l.length ≤ 20) (hn : n ≤ 2800) : needM (cutL l l.length n) ≤ 7 := by
  have h1 := overK_few (l := cutL l l.length n) (m := l.length) (fun k hk => by have := (cutL_bd l l.length n k).2.2 hk; omega) (cutL l l.length n).length
  have h2 := nodN5_20 (x := (overK (cutL l l.length n) (cutL l l.length n).length).length) (by omega)
  have h3 : bmN (cutL l l.length n).length ≤ 3 := by rw [cutL_len]; unfold bmN; omega
  unfold needM; omega
theorem plot_MetaC (B ba b g cc : Nat) (pa : Option Addr) (ca m n : Nat) (a : Addr) (c : Nat) (A : List Int) (w : World) (hAl : A.length = n) (hC : AlC B ba (256 * n) cc ca m (n - m)) (hA : Al B ba b g (256 * n) cc pa ca m (n - m) 0 (List.replicate (256 * n) (0 : UInt8)) w) (h : Sl w (.slice (some a) n c) n (A.map (Value.int .i64))) (hn : n ≤ 3000) (hs : splitE A = 0) (hf : FreeOk A (m : Int)) (h1 : 1 ≤ m) (hk : needM A ≤ n - m) (hBw : B ≤ w.heap.size) :
    Calls Tryz.prog 12 #[.pointer (some ⟨ba, 0, none⟩), .slice (some a) n c] w (MetaP B ba b g (256 * n) cc pa ca m (n - m) 0 (List.replicate (256 * n) (0 : UInt8)) A w) := by
  subst hAl
  exact plot_Meta B ba b g _ cc pa ca m _ 0 _ a c A w hC hA h hn (by omega) hs (Nat.zero_le _) (by omega) h1 hf hf hBw
theorem chart_MetaK (Bi b : Nat) (pi : Option Addr) (ni ci : Nat) (l : List UInt8) (index over n fuel : Int) (m : Nat) (L : List Int) (w : World) (hI : ImgR Bi b pi ni ci l w) (hn : n ≤ 1099511627776) (hfu : fuel ≤ 1000) (hO : metaO l index over n fuel = ([], 0, L)) (hm : L.length = m) :
    Calls Tryz.prog 13 #[.pointer (some ⟨b, 0, none⟩), .int .i64 index, .int .i64 over, .int .i64 n, .int .i64 fuel] w (RetS (fun w' r => ∃ p c, r = .tuple #[.slice p m c, .nilIface] ∧ w'.ownsRow w.heap.size 3 1 (.slice p m c) m (L.map (Value.int .i64))) w) := by
  subst hm
  refine (chart_Meta Bi b pi ni ci l index over n fuel w hI hn hfu).mono ?_
  rintro e W q
  rw [hO] at q
  rcases q with ⟨h, _⟩ | ⟨h, p, c, rfl, hb, ho⟩
  · exact absurd rfl h
  · exact ⟨_, rfl, hb, p, c, rfl, ho⟩
theorem cut_back {l : List Int} {n : Nat} (h0 : 1 ≤ l.length) (hl : l.length ≤ 20) (h30 : 30 ≤ n) (hn : n ≤ 2800) : metaO (metaB (cutL l l.length n) l.length 0 (List.replicate (256 * n) (0 : UInt8))).2.2 (metaB (cutL l l.length n) l.length 0 (List.replicate (256 * n) (0 : UInt8))).1 (metaB (cutL l l.length n) l.length 0 (List.replicate (256 * n) (0 : UInt8))).2.1 (n : Int) 100 = ([], 0, (bumpL (cutL l l.length n) l.length (needM (cutL l l.length n)))) := by
  have hd := cut_need hl hn
  have h := meta_back (l := (cutL l l.length n)) (u := l.length) (bs := (List.replicate (256 * n) (0 : UInt8))) (fuel := 100) h0 (cut_split l (by omega)) (cut_free l n) (by rw [cutL_len]; omega) (by omega) (by rw [List.length_replicate]; omega) (by omega)
  rwa [cutL_len] at h
theorem bump_at {l : List Int} {n i : Nat} (h : i < n) : (bumpL (cutL l l.length n) l.length (needM (cutL l l.length n))).getD i 0 = (cutL l l.length n).getD i 0 + (if l.length ≤ i ∧ i < l.length + needM (cutL l l.length n) then 1 else 0) := bumpL_get (by rw [cutL_len]; exact h)
set_option maxRecDepth 100000 in
set_option maxHeartbeats 8000000 in
theorem chartSelf_law (n0 : Int) (a0 : Option Addr) (c0 : Nat) (l : List Int) (w : World) (h : Sl w (.slice a0 l.length c0) l.length (l.map (Value.int .i64))) :
    Calls Tryz.prog 4 #[.int .i64 n0, .slice a0 l.length c0] w (Ret (.bool true) w) := by
 obtain ⟨N, hN, hN7⟩ := and2047c n0
 obtain ⟨n, hn⟩ : ∃ n : Nat, ((30 + N : Nat) : Int) = (n : Int) := ⟨30 + N, rfl⟩
 refine zin 108 Tryz.func4 ?_
 refine xq 8 (congrArg (Value.int .i64) (show (IntKind.i64.wrap (↑(BitVec.ofInt 64 n0 &&& BitVec.ofInt 64 (2047 : Int)).toNat : Int) : Int) = (↑N : Int) from hN)) ?_
 refine xwm 0 (30 + (↑N : Int)) (↑n : Int) ?_
 refine xg 10 [20, 21] (decide ((↑l.length : Int) > (20 : Int))) (fun hc1 => ?_) (fun hc1 => ?_)
 · have hc1 := of_decide_eq_true hc1
   refine xr 9 (args := #[]) (lives23 _) fun W2 hb2 => ?_
   exact xe 5 (.bool true) ⟨rfl, hb2⟩
 have hc1 := of_decide_eq_false hc1
 refine xie 6 (↑l.length : Int) (0 : Int) (fun hc3 => ?_) (fun hc3 => ?_)
 · refine xr 2 (args := #[]) (lives23 _) fun W4 hb4 => ?_
   exact xe 5 (.bool true) ⟨rfl, hb4⟩
 refine xmk 5 fun _ _ _ _ zJ zQ zo zx zy zK => op_make n (.int .i64 0) 1 8 ((cutL l 0 n).map (Value.int .i64)) zo zx zy Tryz.underlying22 (by kernel_rfl) rfl (by omega) (by omega) (cut_make l n) fun b5 W5 n5 => ?_
 refine zK _ _ ?_
 refine zl 10 108 (fun zm zkv V => ∃ (i : Nat), zkv = [(0, .int .i64 (↑n : Int)), (1, .slice a0 l.length c0), (4, .bool false), (5, .slice (some ⟨b5, 0, none⟩) n n), (6, .int .i64 (↑i : Int))] ∧ zm = l.length - ((↑i : Int)).toNat ∧ Below w.heap.size w V ∧ V.ownsRow w.heap.size 3 1 (.slice (some ⟨b5, 0, none⟩) n n) n ((cutL l i n).map (Value.int .i64)) ∧ i ≤ l.length) ⟨0, rfl, rfl, n5.below, (own_of_blk (size := 1) (n := n) n5.blk (n5.ge (Below.refl w.heap.size w)) (by rw [List.length_map, cutL_len, Nat.mul_one]) (by unfold maxLen; omega)), Nat.zero_le _⟩ ?_
 rintro _ _ W6 ⟨i, rfl, rfl, hB_6, ho, hi⟩ J6 hJ6 r6
 refine xid 9 ((↑i : Int) < (↑l.length : Int)) (fun hc7 => ?_) (fun hc7 => ?_)
 · refine xx 9 _ l.length i 1 (Ints.elem h (k := i) (by omega)).1 ?_
   refine xl 0 ((Ints.elem (h.below hB_6) (k := i) (by omega)).2) ?_
   refine xq 0 (congrArg (Value.int .i64) (show (IntKind.i64.wrap (↑(BitVec.ofInt 64 (l.getD i 0) &&& BitVec.ofInt 64 (65535 : Int)).toNat : Int) : Int) = (lowI (l.getD i 0)) from rfl)) ?_
   refine xx 0 _ n i 1 (show (some (⟨b5, 0, none⟩ : Addr)).isSome = true from rfl) ?_
   refine xst 0 fun _ _ _ _ zJ zQ zo zx zy zK => op_storeRow (t := 3) (k := i) (v := .int .i64 (lowI (l.getD i 0))) zo zx zy (by kernel_rfl) rfl ho (by omega) fun W8 u8 o8 => ?_
   rw [cut_set (l := l) (i := i) (n := n) (by omega)] at o8
   refine zK _ _ ?_
   refine xwm 5 ((↑i : Int) + 1) (↑(i + 1) : Int) ?_
   have hB'1 := u8.below hB_6 (own_ge ho)
   exact ze 2 (hJ6 _ _ _ ⟨i + 1, rfl, rfl, hB'1, o8, by omega⟩ (by omega))
 obtain rfl : i = l.length := by omega
 have hw9 : w.heap.size ≤ (W6).heap.size := hB_6.size
 refine xc 10 (args := #[.int .i64 (↑n : Int), .int .i64 (↑l.length : Int)]) (law23_made n l.length _ (by omega) (by omega) (by omega)) ?_
 rintro _ W9 ⟨_, rfl, hb9, ba, b, g, c5, pa, ca, rfl, hC, hA2⟩
 replace hC := hC.mono hw9
 replace hA2 := hA2.mono hw9
 have hnd := cut_need (l := l) (n := n) (by omega) (by omega)
 have ho'1 := own_below ho hb9
 have hB'2 := Bl.next hB_6 hb9
 refine xc 17 (args := #[.pointer (some ⟨ba, 0, none⟩), .slice (some ⟨b5, 0, none⟩) n n]) (plot_MetaC w.heap.size ba b g c5 pa ca l.length n (⟨b5, 0, none⟩) n (cutL l l.length n) _ (cutL_len _ _ _) hC hA2 (own_sl ho'1) (by omega) (cut_split l (by omega)) (cut_free l n) (by omega) (by omega) hB'2.size) ?_
 rintro _ W10 ⟨rfl, hb10, hO10, hX10, hA2⟩
 refine xr 12 (args := #[.pointer (some ⟨ba, 0, none⟩)]) (alloc_Image ba b _ _ _ hA2.blkA) fun W11 hb11 => ?_
 have hA2'1 := hA2.below hb11
 refine xc 3 (args := #[.pointer (some ⟨b, 0, none⟩), .int .i64 ((metaB (cutL l l.length n) l.length 0 (List.replicate (256 * n) (0 : UInt8))).1), .int .i64 ((metaB (cutL l l.length n) l.length 0 (List.replicate (256 * n) (0 : UInt8))).2.1), .int .i64 (↑n : Int), .int .i64 100]) (chart_MetaK w.heap.size b (some ⟨g, 0, none⟩) (256 * n) c5 (metaB (cutL l l.length n) l.length 0 (List.replicate (256 * n) (0 : UInt8))).2.2 (metaB (cutL l l.length n) l.length 0 (List.replicate (256 * n) (0 : UInt8))).1 (metaB (cutL l l.length n) l.length 0 (List.replicate (256 * n) (0 : UInt8))).2.1 (↑n : Int) 100 n (bumpL (cutL l l.length n) l.length (needM (cutL l l.length n))) _ ⟨hA2'1.blkI, hA2'1.data, by omega⟩ (by omega) (by decide) (cut_back (by omega) (by omega) (by omega) (by omega)) (by rw [bumpL_len, cutL_len])) ?_
 rintro _ W12 ⟨_, rfl, hb12, p9, c9, rfl, hr⟩
 have hs12 := (Bl.next (hB'2.trans hb10) hb11).size
 refine xk 24 (show (((↑n : Int) != (↑n : Int)) : Bool) = false from by simp) ?_
 have hA2'2 := hA2'1.below hb12
 have ho'2 := own_below (own_below (own_only ho'1 hO10 (by decide)) hb11) hb12
 have hr'1 := own_mono hr hs12
 have hB'3 := Bl.next (Bl.next (hB'2.trans hb10) hb11) hb12
 refine zl 9 108 (fun zm zkv V => ∃ (i : Nat), zkv = [(0, .int .i64 (↑n : Int)), (1, .slice a0 l.length c0), (5, .slice (some ⟨b5, 0, none⟩) n n), (7, .pointer (some ⟨ba, 0, none⟩)), (11, .slice p9 n c9), (13, .int .i64 (↑i : Int))] ∧ zm = n - ((↑i : Int)).toNat ∧ Below w.heap.size w V ∧ Al w.heap.size ba b g (256 * n) c5 pa ca l.length (n - l.length) (0 + needM (cutL l l.length n)) (metaB (cutL l l.length n) l.length 0 (List.replicate (256 * n) (0 : UInt8))).2.2 V ∧ V.ownsRow w.heap.size 3 1 (.slice (some ⟨b5, 0, none⟩) n n) n ((cutL l l.length n).map (Value.int .i64)) ∧ V.ownsRow w.heap.size 3 1 (.slice p9 n c9) n ((bumpL (cutL l l.length n) l.length (needM (cutL l l.length n))).map (Value.int .i64)) ∧ i ≤ n) ⟨0, rfl, rfl, hB'3, hA2'2, ho'2, hr'1, Nat.zero_le _⟩ ?_
 rintro _ _ W13 ⟨i, rfl, rfl, hB_13, hA2, ho, hr, hi_13⟩ J13 hJ13 r13
 have hab := cutL_bd l l.length n i
 refine xid 8 ((↑i : Int) < (↑n : Int)) (fun hc14 => ?_) (fun hc14 => ?_)
 · have hbu := bump_at (l := l) (n := n) (i := i) (by omega)
   refine xx 8 _ n i 1 (show (some (⟨b5, 0, none⟩ : Addr)).isSome = true from rfl) ?_
   refine xl 0 ((IntsN.elem (own_sl ho) (cutL_len _ _ _) (k := i) (by omega)).2) ?_
   refine xg 11 [89, 90] (decide ((↑i : Int) ≥ (↑l.length : Int))) (fun hc15 => ?_) (fun hc15 => ?_)
   · have hc15 := of_decide_eq_true hc15
     refine xr 4 (args := #[.pointer (some ⟨ba, 0, none⟩)]) (alloc_Used ba b _ (0 + needM (cutL l l.length n)) _ hA2.blkA) fun W16 hb16 => ?_
     refine xwm 0 ((↑l.length : Int) + (↑(0 + needM (cutL l l.length n)) : Int)) (↑(l.length + (0 + needM (cutL l l.length n))) : Int) ?_
     refine xid 4 ((↑i : Int) < (↑(l.length + (0 + needM (cutL l l.length n))) : Int)) (fun hc17 => ?_) (fun hc17 => ?_)
     · refine xw 2 (((cutL l l.length n).getD i 0) + 1) ?_
       have hr'2 := own_below hr hb16
       refine xx 7 _ n i 1 (IntsN.elem (own_sl hr'2) (by rw [bumpL_len, cutL_len]) (k := i) (by omega)).1 ?_
       refine xl 0 ((IntsN.elem (own_sl hr'2) (by rw [bumpL_len, cutL_len]) (k := i) (by omega)).2) ?_
       refine xk 4 (show ((((bumpL (cutL l l.length n) l.length (needM (cutL l l.length n))).getD i 0) != ((cutL l l.length n).getD i 0) + 1) : Bool) = false from by rw [hbu, if_pos ⟨by omega, by omega⟩]; simp) ?_
       refine xwm 5 ((↑i : Int) + 1) (↑(i + 1) : Int) ?_
       have hB'4 := Bl.next hB_13 hb16
       have hA2'3 := hA2.below hb16
       have ho'3 := own_below ho hb16
       exact ze 2 (hJ13 _ _ _ ⟨i + 1, rfl, rfl, hB'4, hA2'3, ho'3, hr'2, by omega⟩ (by omega))
     have hr'3 := own_below hr hb16
     refine xx 6 _ n i 1 (IntsN.elem (own_sl hr'3) (by rw [bumpL_len, cutL_len]) (k := i) (by omega)).1 ?_
     refine xl 0 ((IntsN.elem (own_sl hr'3) (by rw [bumpL_len, cutL_len]) (k := i) (by omega)).2) ?_
     refine xk 4 (show ((((bumpL (cutL l l.length n) l.length (needM (cutL l l.length n))).getD i 0) != ((cutL l l.length n).getD i 0)) : Bool) = false from by rw [hbu, if_neg (by omega), Int.add_zero]; simp) ?_
     refine xwm 5 ((↑i : Int) + 1) (↑(i + 1) : Int) ?_
     have hB'5 := Bl.next hB_13 hb16
     have hA2'4 := hA2.below hb16
     have ho'4 := own_below ho hb16
     exact ze 2 (hJ13 _ _ _ ⟨i + 1, rfl, rfl, hB'5, hA2'4, ho'4, hr'3, by omega⟩ (by omega))
   have hc15 := of_decide_eq_false hc15
   refine xx 17 _ n i 1 (IntsN.elem (own_sl hr) (by rw [bumpL_len, cutL_len]) (k := i) (by omega)).1 ?_
   refine xl 0 ((IntsN.elem (own_sl hr) (by rw [bumpL_len, cutL_len]) (k := i) (by omega)).2) ?_
   refine xk 4 (show ((((bumpL (cutL l l.length n) l.length (needM (cutL l l.length n))).getD i 0) != ((cutL l l.length n).getD i 0)) : Bool) = false from by rw [hbu, if_neg (by omega), Int.add_zero]; simp) ?_
   refine xwm 5 ((↑i : Int) + 1) (↑(i + 1) : Int) ?_
   exact ze 2 (hJ13 _ _ _ ⟨i + 1, rfl, rfl, hB_13, hA2, ho, hr, by omega⟩ (by omega))
 refine xr 7 (args := #[]) (lives23 _) fun W18 hb18 => ?_
 have hB'6 := Bl.next hB_13 hb18
 exact xe 4 (.bool true) ⟨rfl, hB'6⟩
end Go.Proofs.YthlakkdgcgkcdaaGreat
