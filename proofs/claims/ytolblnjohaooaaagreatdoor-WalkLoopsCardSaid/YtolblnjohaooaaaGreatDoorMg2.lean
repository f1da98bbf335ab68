/- Rules by which a printed walk steps through code while the kernel keeps the frame: the frame is the list of what was put, what only computes is run by 'zr' and 'zb', and each rule takes the next operation that does something. No program is named here. Bytes: slices.Clone of bytes, and package code: what there, fits, bytes and Put return. Package crc: the register runs as the plain functions below. code.Put returns the bytes with the number in them. crc.Sum of one slice, and package seal: Salt, known, sum and Seal. More rules for printed walks. No program is named here. errors.Is of one Errno at another, as a contract. Package image at an image of no bytes, block.told at an Errno, and block.Super at an image of no bytes. Package image: Of, Blocks, block, Write and Bytes at an image whose bytes lie in a row of its own. Package alloc at an image of its own: New, Next, Lay, Left, Used. node.Width and node.Max at the five trees; package tall: over, Levels, Nodes, Sizes. Reading numbers: code.Get, code.Unpack, code.Zero at places that are there. Lemmas for the law AllocOnce: remainders, bytes as a string, blocks laid one behind the other. code.Zero, seal.Open. -/
import Derived.LoopN
import Derived.Deep.LoopGhost
import Derived.Test.YtolblnjohaooaaaGreatDoorProg
import Derived.Deep.MidRow
import Derived.Test.YtolblnjohaooaaaGreatDoorMg1
namespace Go.Proofs.YtolblnjohaooaaaGreatDoor
open Go.RowKit
set_option linter.unusedVariables false

/-! ### frames -/
noncomputable def zlk (l : List (Nat × Value)) (k : Nat) : Value := List.rec (motive := fun _ => Value) undef (fun p _ ih => Bool.rec (motive := fun _ => Value) ih p.2 (Nat.beq p.1 k)) l
theorem zlk_cons (d : Nat) (v : Value) (l : List (Nat × Value)) (k : Nat) : zlk ((d, v) :: l) k = if d = k then v else zlk l k := by
  show Bool.rec (motive := fun _ => Value) (zlk l k) v (Nat.beq d k) = _
  cases h : Nat.beq d k with
  | true => rw [if_pos (Nat.eq_of_beq_eq_true h)]
  | false => rw [if_neg (Nat.ne_of_beq_eq_false h)]
noncomputable def zact (n : Nat) (kv : List (Nat × Value)) : Act := ⟨((List.range n).map (zlk kv)).toArray, []⟩
noncomputable def zget (n : Nat) (kv : List (Nat × Value)) (k : Nat) : Value := Bool.rec (motive := fun _ => Value) undef (zlk kv k) (Nat.blt k n)
theorem blt_dec (k n : Nat) : Nat.blt k n = decide (k < n) := by
  rw [Bool.eq_iff_iff]; simp
theorem zact_at (n : Nat) (kv : List (Nat × Value)) (d : Nat) : (zact n kv).tmps[d]? = Bool.rec (motive := fun _ => Option Value) none (some (zlk kv d)) (Nat.blt d n) := by
  rw [blt_dec]
  by_cases h : d < n <;> simp [zact, h]
theorem zact_getD (n : Nat) (kv : List (Nat × Value)) (d : Nat) : (zact n kv).tmps.getD d undef = zget n kv d := by
  have h := zact_at n kv d
  rw [Array.getD_eq_getD_getElem?, h]
  unfold zget
  cases Nat.blt d n <;> rfl
noncomputable def zev (n : Nat) (kv : List (Nat × Value)) : Operand → Value
  | .tmp t => zget n kv t
  | .const v => v
  | .global g => .pointer (some ⟨g, 0, none⟩)
  | .func f => .func (.func f) #[] #[]
theorem zact_eval (n : Nat) (kv : List (Nat × Value)) : (zact n kv).eval = zev n kv := by
  funext x
  cases x with
  | tmp t => exact zact_getD n kv t
  | _ => rfl
def zput (kv : List (Nat × Value)) (d : Option Tmp) (v : Value) : List (Nat × Value) := match d with
  | some d => (d, v) :: kv
  | none => kv
theorem zact_put (n : Nat) (kv : List (Nat × Value)) (d : Option Tmp) (v : Value) : (zact n kv).put d v = zact n (zput kv d v) := by
  cases d with
  | none => rfl
  | some d =>
    show (⟨((List.range n).map (zlk kv)).toArray.setIfInBounds d v, []⟩ : Act) = ⟨((List.range n).map (zlk ((d, v) :: kv))).toArray, []⟩
    congr 1
    rw [List.setIfInBounds_toArray]
    congr 1
    apply List.ext_getElem?
    intro i
    rw [List.getElem?_set, List.getElem?_map, List.getElem?_map, List.length_map, List.length_range]
    by_cases hi : i < n
    · simp only [List.getElem?_range hi, Option.map_some, zlk_cons]
      by_cases hd : d = i
      · subst hd; simp [hi]
      · simp [hd]
    · have : (List.range n)[i]? = none := by simp; omega
      simp only [this, Option.map_none]
      by_cases hd : d = i
      · subst hd; simp [hi]
      · simp [hd]
noncomputable def znth (l : List Oper) (k : Nat) : Option Oper := List.rec (motive := fun _ => Nat → Option Oper) (fun _ => none) (fun o _ ih k => Nat.rec (motive := fun _ => Option Oper) (some o) (fun k' _ => ih k') k) l k
theorem znth_eq : ∀ (l : List Oper) (k : Nat), znth l k = l[k]?
  | [], _ => rfl
  | _ :: _, 0 => rfl
  | _ :: l, k + 1 => by rw [List.getElem?_cons_succ, ← znth_eq l k]; rfl
noncomputable def zyl (all : List Oper) (n : Nat) (kv : List (Nat × Value)) (j : Nat) : Option Bool :=
  match ((znth all j).bind (·.dst)) with
  | some d => match zget n kv d with
    | .bool b => some b
    | _ => none
  | none => none
theorem zyl_eq (all : List Oper) (n : Nat) (kv : List (Nat × Value)) : yielded all.toArray (zact n kv).tmps = zyl all n kv := by
  funext j
  unfold yielded zyl
  rw [znth_eq, List.getElem?_toArray]
  cases h : (all[j]?).bind (·.dst) with
  | none => rfl
  | some d =>
    simp only [Option.bind_some, zact_at]
    unfold zget
    cases Nat.blt d n
    · rfl
    · cases zlk kv d <;> rfl
noncomputable def zps (P : Program) (all : List Oper) (n : Nat) (kv : List (Nat × Value)) (o : Oper) : Option (List (Nat × Value)) :=
  match Region.wanted o (zyl all n kv) with
  | true => match pureVal P (execOp (zev n kv) o) with
    | some (.value v) => some (zput kv o.dst v)
    | _ => none
  | false => some (zput kv o.dst undef)
theorem zps_yields {P : Program} {all : List Oper} {n : Nat} {kv kv' : List (Nat × Value)} {o : Oper} (h : zps P all n kv o = some kv') : ∃ v, kv' = zput kv o.dst v ∧ ∀ S : World → Prop, YieldsIf P all.toArray S o v (zact n kv) := by
  unfold zps at h
  split at h
  · rename_i hw
    split at h
    · rename_i v hv
      simp only [Option.some.injEq] at h
      exact ⟨v, h.symm, fun S => .inl ⟨by rw [zyl_eq]; exact hw, fun w _ => by rw [zact_eval]; exact pureVal_run hv w⟩⟩
    · cases h
  · rename_i hw
    simp only [Option.some.injEq] at h
    exact ⟨undef, h.symm, fun S => .inr ⟨by rw [zyl_eq]; exact hw, rfl⟩⟩

/-! ### what stands of an order that is drawn -/
/-- what a drawn region leaves alone: all that stood, or all but blocks of some types -/
inductive SF
  | z
  | t (B : Nat) (T : List TypeId)
def SF.rel : SF → World → World → Prop
  | .z, w, V => Below w.heap.size w V
  | .t B T, w, V => Below (Nat.min B w.heap.size) w V ∧ Only T w V
theorem SF.refl (sf : SF) (w : World) : sf.rel w w := by
  cases sf with
  | z => exact Below.refl _ _
  | t B T => exact ⟨Below.refl _ _, Only.refl _ _⟩
theorem SF.of_below (sf : SF) {w W : World} (h : Below w.heap.size w W) : sf.rel w W := by
  cases sf with
  | z => exact h
  | t B T => exact ⟨h.mono (Nat.min_le_right _ _), Only.of_below h⟩
theorem SF.trans (sf : SF) {a b c : World} (h : sf.rel a b) (k : sf.rel b c) : sf.rel a c := by
  cases sf with
  | z => exact Bl.next h k
  | t B T =>
    refine ⟨h.1.trans (k.1.mono ?_), h.2.trans k.2⟩
    have := h.1.size
    simp only [Nat.min_def]; split <;> split <;> omega
noncomputable def zL (n : Nat) (done : List Nat) : Array Bool := ((List.range n).map fun i => done.elem i).toArray
theorem zL_getD (n : Nat) (done : List Nat) (i : Nat) (b : Bool) : (zL n done).getD i b = if i < n then done.elem i else b := by
  rw [Array.getD_eq_getD_getElem?]
  by_cases h : i < n <;> simp [zL, h]
theorem zL_set (n : Nat) (done : List Nat) (i : Nat) : (zL n done).setIfInBounds i true = zL n (i :: done) := by
  unfold zL
  rw [List.setIfInBounds_toArray]
  congr 1
  apply List.ext_getElem?
  intro j
  rw [List.getElem?_set, List.getElem?_map, List.getElem?_map, List.length_map, List.length_range]
  by_cases hj : j < n
  · simp only [List.getElem?_range hj, Option.map_some]
    by_cases hd : i = j
    · subst hd; simp [hj]
    · have : (j == i) = false := by simp; exact fun e => hd e.symm
      rw [if_neg hd, List.elem_cons, this]
  · have : (List.range n)[j]? = none := by simp; omega
    simp only [this, Option.map_none]
    by_cases hd : i = j
    · subst hd; simp [hj]
    · simp [hd]
theorem zL_nil (n : Nat) : Array.replicate n false = zL n [] := by
  unfold zL
  apply Array.ext_getElem?
  intro i
  by_cases h : i < n <;> simp [h]
noncomputable def zready (all : List Oper) (done : List Nat) : List Nat :=
  (List.range all.length).filter fun i => !(done.elem i) && match znth all i with
    | some o => o.after.all fun e => !Region.binds .any e || (Nat.blt e.on all.length && done.elem e.on)
    | none => false
theorem zready_eq (all : List Oper) (done : List Nat) : Region.ready .any all.toArray (zL all.length done) = zready all done := by
  unfold Region.ready zready
  rw [List.size_toArray]
  refine List.filter_congr fun i hi => ?_
  have hi' : i < all.length := by simpa using hi
  rw [zL_getD, if_pos hi', znth_eq, List.getElem?_toArray]
  congr 1
  cases all[i]? with
  | none => rfl
  | some o =>
    simp only [Option.map_some, Option.getD_some]
    congr 1
    funext e
    rw [zL_getD, blt_dec]
    by_cases he : e.on < all.length <;> simp [he]

/-! ### the state of a walk -/
inductive KF
  | seq (c : Code)
  | blk (id : Nat)
  | jn (J : Act → World → Prop)
  | rnd (c : Code) (n : Nat)
inductive Zc
  | code (c : Code)
  | ops (all l : List Oper)
  | any (sf : SF) (all : List Oper) (f : Nat) (done : List Nat)
  | one (sf : SF) (all : List Oper) (f : Nat) (done : List Nat) (i : Nat)
  | tak (sf : SF) (all : List Oper) (f : Nat) (done : List Nat) (i : Nat)
  | ex (e : Exit)
structure Zs where
  n : Nat
  ks : List KF
  c : Zc
  kv : List (Nat × Value)
section
variable (P : Program) (fn : Func) (R : Ending → World → Prop)
def KQ : List KF → Exit → Act → World → Prop
  | [] => bodyPost P fn R
  | .seq c :: ks => Exit.then (c.wp P (KQ ks)) (KQ ks)
  | .blk id :: ks => Exit.inBlock id (KQ ks)
  | .jn J :: ks => Exit.then J (KQ ks)
  | .rnd c n :: ks => Exit.then (Code.rounds P c (KQ ks) n) (KQ ks)
theorem KQ_panic : ∀ (ks : List KF) (c : List PanicEntry) (a : Act) (w : World), KQ P fn R ks (.panic c) a w = bodyPost P fn R (.panic c) a w
  | [], _, _, _ => rfl
  | .seq _ :: ks, c, a, w => KQ_panic ks c a w
  | .blk _ :: ks, c, a, w => KQ_panic ks c a w
  | .jn _ :: ks, c, a, w => KQ_panic ks c a w
  | .rnd _ _ :: ks, c, a, w => KQ_panic ks c a w
theorem KQ_put (ks : List KF) (d : Option Tmp) (v : Value) (c : List PanicEntry) (a : Act) (w : World) (h : KQ P fn R ks (.panic c) (a.put d v) w) : KQ P fn R ks (.panic c) a w := by
  rw [KQ_panic] at h ⊢
  refine ⟨?_, h.2⟩
  have := h.1
  cases d <;> exact this
def Go (s : Zs) (w : World) : Prop := match s.c with
  | .code c => c.wp P (KQ P fn R s.ks) (zact s.n s.kv) w
  | .ops all l => wpList P all.toArray (KQ P fn R s.ks) l (zact s.n s.kv) w
  | .any sf all f done => Region.noSelect all.toArray = true → wpAnyH P .any all.toArray (KQ P fn R s.ks) (sf.rel w) f (zL all.length done) (zact s.n s.kv) w
  | .one sf all f done i => Region.noSelect all.toArray = true → wpOp P all.toArray (KQ P fn R s.ks) i (fun a' w' => sf.rel w w' ∧ wpAnyH P .any all.toArray (KQ P fn R s.ks) (sf.rel w) f (zL all.length (i :: done)) a' w') (zact s.n s.kv) w
  | .tak sf all f done i => Region.free .any all.toArray (zL all.length done) i = true → (zready all done).contains i = true → Region.noSelect all.toArray = true → wpAnyH P .any all.toArray (KQ P fn R s.ks) (sf.rel w) (f + 1) (zL all.length done) (zact s.n s.kv) w
  | .ex e => KQ P fn R s.ks e (zact s.n s.kv) w
end

/-! ### steps that need no word -/
noncomputable def zstep (P : Program) (s : Zs) : Zs := match s with
  | ⟨n, ks, c, kv⟩ => match c with
    | .code c => match c with
      | .skip => ⟨n, ks, .ex .normal, kv⟩
      | .label _ => ⟨n, ks, .ex .normal, kv⟩
      | .seq a b => ⟨n, .seq b :: ks, .code a, kv⟩
      | .block id a => ⟨n, .blk id :: ks, .code a, kv⟩
      | .exit id => ⟨n, ks, .ex (.exit id), kv⟩
      | .ret => ⟨n, ks, .ex .ret, kv⟩
      | .region id ops d => Bool.rec (motive := fun _ => Zs) ⟨n, ks, .ops ops.toList ops.toList, kv⟩ ⟨n, ks, .code (.region id ops true), kv⟩ d
      | .cond c a b => match zev n kv c with
        | .bool t => ⟨n, ks, .code (Bool.rec (motive := fun _ => Code) b a t), kv⟩
        | _ => ⟨n, ks, .code (.cond c a b), kv⟩
      | c => ⟨n, ks, .code c, kv⟩
    | .ops all l => match l with
      | [] => ⟨n, ks, .ex .normal, kv⟩
      | o :: l => match zps P all n kv o with
        | some kv' => ⟨n, ks, .ops all l, kv'⟩
        | none => ⟨n, ks, .ops all (o :: l), kv⟩
    | .any sf all f done => match zready all done with
      | [] => ⟨n, ks, .ex .normal, kv⟩
      | _ => ⟨n, ks, .any sf all f done, kv⟩
    | .one sf all f done i => ⟨n, ks, .one sf all f done i, kv⟩
    | .tak sf all f done i => ⟨n, ks, .tak sf all f done i, kv⟩
    | .ex e => match ks with
      | [] => ⟨n, [], .ex e, kv⟩
      | .seq c :: ks => match e with
        | .normal => ⟨n, ks, .code c, kv⟩
        | e => ⟨n, ks, .ex e, kv⟩
      | .blk id :: ks => match e with
        | .exit id' => Bool.rec (motive := fun _ => Zs) ⟨n, ks, .ex (.exit id'), kv⟩ ⟨n, ks, .ex .normal, kv⟩ (Nat.beq id' id)
        | e => ⟨n, ks, .ex e, kv⟩
      | .jn J :: ks => match e with
        | .normal => ⟨n, .jn J :: ks, .ex .normal, kv⟩
        | e => ⟨n, ks, .ex e, kv⟩
      | .rnd c m :: ks => match e with
        | .normal => Nat.rec (motive := fun _ => Zs) ⟨n, .rnd c m :: ks, .ex .normal, kv⟩ (fun m' _ => ⟨n, .rnd c m' :: ks, .code c, kv⟩) m
        | e => ⟨n, ks, .ex e, kv⟩
section
variable {P : Program} {fn : Func} {R : Ending → World → Prop} {w : World}
theorem zstep_sound (s : Zs) (h : Go P fn R (zstep P s) w) : Go P fn R s w := by
  obtain ⟨n, ks, c, kv⟩ := s
  cases c with
  | code c =>
    cases c with
    | skip => exact wp_skip h
    | label l => exact wp_label h
    | seq a b => exact wp_seq h
    | block id a => exact wp_block h
    | exit id => exact wp_exit h
    | ret => exact wp_ret h
    | region id ops d =>
      cases d with
      | true => exact h
      | false =>
        refine wp_region_list ?_
        have h' : wpList P ops.toList.toArray (KQ P fn R ks) ops.toList (zact n kv) w := h
        rwa [Array.toArray_toList] at h'
    | cond c a b =>
      unfold zstep at h
      dsimp only at h
      split at h
      · rename_i t ht
        refine wp_cond (t := t) (by rw [zact_eval]; exact ht) ?_
        cases t <;> exact h
      · exact h
    | _ => exact h
  | ops all l =>
    cases l with
    | nil => exact (h : KQ P fn R ks .normal (zact n kv) w)
    | cons o l =>
      unfold zstep at h
      dsimp only at h
      split at h
      · rename_i kv' hk
        obtain ⟨v, rfl, hy⟩ := zps_yields hk
        have h' : wpList P all.toArray (KQ P fn R ks) l (zact n (zput kv o.dst v)) w := h
        rw [← zact_put] at h'
        exact wpList_of_yields (hy _) h'
      · exact h
  | any sf all f done =>
    unfold zstep at h
    dsimp only at h
    split at h
    · rename_i hr
      exact fun _ => wpAnyH_done (by rw [zready_eq]; exact hr) h f
    · exact h
  | one sf all f done i => exact h
  | tak sf all f done i => exact h
  | ex e =>
    cases ks with
    | nil => exact h
    | cons k ks =>
      cases k with
      | seq c => cases e <;> exact h
      | blk id =>
        cases e with
        | exit id' =>
          show Exit.inBlock id (KQ P fn R ks) (.exit id') _ w
          unfold zstep at h
          dsimp only at h
          cases hb : Nat.beq id' id with
          | true =>
            rw [hb] at h
            have : id' = id := Nat.eq_of_beq_eq_true hb
            simp only [Exit.inBlock, this, if_true]
            exact h
          | false =>
            rw [hb] at h
            have : id' ≠ id := Nat.ne_of_beq_eq_false hb
            simp only [Exit.inBlock, this, if_false]
            exact h
        | _ => exact h
      | jn J => cases e <;> exact h
      | rnd c m =>
        cases e with
        | normal =>
          cases m with
          | zero => exact h
          | succ m => exact h
        | _ => exact h
noncomputable def zr (P : Program) (k : Nat) (s : Zs) : Zs := Nat.rec (motive := fun _ => Zs → Zs) (fun s => s) (fun _ ih s => ih (zstep P s)) k s
theorem zr_sound : ∀ (k : Nat) (s : Zs), Go P fn R (zr P k s) w → Go P fn R s w
  | 0, _, h => h
  | k + 1, s, h => zstep_sound s (zr_sound k (zstep P s) h)

/-! ### a drawn region: what only computes is taken by number -/
noncomputable def zb1 (P : Program) (s : Zs) (i : Nat) : Zs := match s with
  | ⟨n, ks, c, kv⟩ => match c with
    | .any sf all f done => match f with
      | f' + 1 => match znth all i with
        | some o => match Region.free .any all.toArray (zL all.length done) i && (zready all done).contains i with
          | true => match zps P all n kv o with
            | some kv' => ⟨n, ks, .any sf all f' (i :: done), kv'⟩
            | none => ⟨n, ks, .any sf all f done, kv⟩
          | false => ⟨n, ks, .any sf all f done, kv⟩
        | none => ⟨n, ks, .any sf all f done, kv⟩
      | 0 => ⟨n, ks, .any sf all f done, kv⟩
    | c => ⟨n, ks, c, kv⟩
theorem zb1_sound (s : Zs) (i : Nat) (h : Go P fn R (zb1 P s i) w) : Go P fn R s w := by
  obtain ⟨n, ks, c, kv⟩ := s
  cases c with
  | any sf all f done =>
    cases f with
    | zero => exact h
    | succ f =>
      unfold zb1 at h
      dsimp only at h
      split at h
      · rename_i o ho
        split at h
        · rename_i hc
          simp only [Bool.and_eq_true] at hc
          split at h
          · rename_i kv' hk
            obtain ⟨v, rfl, hy⟩ := zps_yields hk
            intro hs
            have h' := h hs
            rw [znth_eq] at ho
            rw [← zact_put, ← zL_set] at h'
            exact wpAnyH_take (by rw [List.getElem?_toArray]; exact ho) hs hc.1 (by rw [zready_eq]; exact hc.2) (KQ_put P fn R ks _ _) (hy _) (sf.refl w) h'
          · exact h
        · exact h
      · exact h
  | _ => exact h
noncomputable def zb (P : Program) (is : List Nat) (s : Zs) : Zs := List.rec (motive := fun _ => Zs → Zs) (fun s => s) (fun i _ ih s => ih (zb1 P s i)) is s
theorem zb_sound : ∀ (is : List Nat) (s : Zs), Go P fn R (zb P is s) w → Go P fn R s w
  | [], _, h => h
  | i :: r, s, h => zb1_sound s i (zb_sound r _ h)
/-- the one that comes up -/
noncomputable def zone (i : Nat) (s : Zs) : Zs := match s with
  | ⟨n, ks, c, kv⟩ => match c with
    | .any sf all f done => match f with
      | f' + 1 => match zready all done with
        | [j] => Bool.rec (motive := fun _ => Zs) ⟨n, ks, .any sf all f done, kv⟩ ⟨n, ks, .one sf all f' done i, kv⟩ (Nat.beq j i)
        | _ => ⟨n, ks, .any sf all f done, kv⟩
      | 0 => ⟨n, ks, .any sf all f done, kv⟩
    | c => ⟨n, ks, c, kv⟩
theorem zone_sound (s : Zs) (i : Nat) (h : Go P fn R (zone i s) w) : Go P fn R s w := by
  obtain ⟨n, ks, c, kv⟩ := s
  cases c with
  | any sf all f done =>
    cases f with
    | zero => exact h
    | succ f =>
      unfold zone at h
      dsimp only at h
      split at h
      · rename_i j hj
        cases hb : Nat.beq j i with
        | true =>
          rw [hb] at h
          obtain rfl : j = i := Nat.eq_of_beq_eq_true hb
          intro hs
          refine wpAnyH_all (rs := [j]) (by rw [zready_eq]; exact hj) (by simp) fun k hk => ?_
          obtain rfl : k = j := by simpa using hk
          rw [zL_set]
          exact h hs
        | false => rw [hb] at h; exact h
      · exact h
  | _ => exact h
/-- one that may be taken first -/
noncomputable def ztak (i : Nat) (s : Zs) : Zs := match s with
  | ⟨n, ks, c, kv⟩ => match c with
    | .any sf all f done => match f with
      | f' + 1 => match Region.free .any all.toArray (zL all.length done) i && (zready all done).contains i with
        | true => ⟨n, ks, .tak sf all f' done i, kv⟩
        | false => ⟨n, ks, .any sf all f done, kv⟩
      | 0 => ⟨n, ks, .any sf all f done, kv⟩
    | c => ⟨n, ks, c, kv⟩
theorem ztak_sound (s : Zs) (i : Nat) (h : Go P fn R (ztak i s) w) : Go P fn R s w := by
  obtain ⟨n, ks, c, kv⟩ := s
  cases c with
  | any sf all f done =>
    cases f with
    | zero => exact h
    | succ f =>
      unfold ztak at h
      dsimp only at h
      split at h
      · rename_i hc
        simp only [Bool.and_eq_true] at hc
        exact h hc.1 hc.2
      · exact h
  | _ => exact h
/-- how one comes to the next operation: so many steps; or, in a drawn region, these first, and then the one that comes up ('o') or one that may be taken first ('e') -/
inductive Zq
  | p (k : Nat)
  | b (is : List Nat)
  | o (is : List Nat) (i : Nat)
  | e (is : List Nat) (i : Nat)
  | r (is : List Nat) (k : Nat)
instance (n : Nat) : OfNat Zq n := ⟨.p n⟩
noncomputable def zq (P : Program) (q : Zq) (s : Zs) : Zs := match q with
  | .p k => zr P k s
  | .b is => zb P is s
  | .o is i => zone i (zb P is s)
  | .e is i => ztak i (zb P is s)
  | .r is k => zr P k (zb P is s)
theorem zq_sound (q : Zq) (s : Zs) (h : Go P fn R (zq P q s) w) : Go P fn R s w := by
  cases q with
  | p k => exact zr_sound k s h
  | b is => exact zb_sound is s h
  | o is i => exact zb_sound is s (zone_sound _ i h)
  | e is i => exact zb_sound is s (ztak_sound _ i h)
  | r is k => exact zb_sound is s (zr_sound k _ h)

/-! ### the operation at hand -/
noncomputable def zop (s : Zs) : Option Oper := match s with
  | ⟨n, ks, c, kv⟩ => match c with
    | .ops all l => match l with
      | o :: _ => match Region.wanted o (zyl all n kv) with
        | true => some o
        | false => none
      | [] => none
    | .one _ all _ _ i => match znth all i with
      | some o => match Region.wanted o (zyl all n kv) with
        | true => some o
        | false => none
      | none => none
    | .tak _ all _ _ i => match znth all i with
      | some o => match Region.wanted o (zyl all n kv) with
        | true => some o
        | false => none
      | none => none
    | _ => none
/-- behind it, its value put -/
noncomputable def znx (s : Zs) (v : Value) : Zs := match s with
  | ⟨n, ks, c, kv⟩ => match c with
    | .ops all l => match l with
      | o :: l => ⟨n, ks, .ops all l, zput kv o.dst v⟩
      | [] => ⟨n, ks, .ops all [], kv⟩
    | .one sf all f done i => match znth all i with
      | some o => ⟨n, ks, .any sf all f (i :: done), zput kv o.dst v⟩
      | none => ⟨n, ks, .one sf all f done i, kv⟩
    | .tak sf all f done i => match znth all i with
      | some o => ⟨n, ks, .any sf all f (i :: done), zput kv o.dst v⟩
      | none => ⟨n, ks, .tak sf all f done i, kv⟩
    | c => ⟨n, ks, c, kv⟩
/-- what is to be shown of the world behind it -/
def zrel (s : Zs) (w W : World) : Prop := match s.c with
  | .one sf _ _ _ _ => sf.rel w W
  | .tak sf _ _ _ _ => sf.rel w W
  | _ => True
/-- may the operation at hand do something? -/
def zeff (s : Zs) : Bool := match s.c with
  | .tak _ _ _ _ _ => false
  | _ => true
theorem zrel_below (s : Zs) {W : World} (h : Below w.heap.size w W) : zrel s w W := by
  unfold zrel
  split
  · exact SF.of_below _ h
  · exact SF.of_below _ h
  · trivial
theorem wpAnyH_str {P : Program} {ops : Array Oper} {Q : Exit → Act → World → Prop} {S S' : World → Prop} {md : Region.Mode} {fuel : Nat} {L : Array Bool} {a : Act} {w : World} (hi : ∀ V, S' V → S V) (h : wpAnyH P md ops Q S' fuel L a w) : wpAnyH P md ops Q S fuel L a w := h_str S' hi h
/-- an operation that does something -/
theorem zgo {s : Zs} {o : Oper} (h : zop s = some o) (he : zeff s = true) (k : ∀ (K : Act → World → Prop), (∀ v W, zrel s w W → Go P fn R (znx s v) W → K ((zact s.n s.kv).put o.dst v) W) → o.wp P (zact s.n s.kv) w K (KQ P fn R s.ks)) : Go P fn R s w := by
  obtain ⟨n, ks, c, kv⟩ := s
  cases c with
  | ops all l =>
    cases l with
    | nil => cases h
    | cons o' l =>
      unfold zop at h
      dsimp only at h
      split at h
      · rename_i hw
        obtain rfl : o' = o := by simpa using h
        refine g_op (by rw [zyl_eq]; exact hw) (k _ fun v W _ hg => ?_)
        rw [zact_put]
        exact hg
      · cases h
  | one sf all f done i =>
    unfold zop at h
    dsimp only at h
    split at h
    · rename_i o' ho
      split at h
      · rename_i hw
        obtain rfl : o' = o := by simpa using h
        intro hs
        have ho' : all.toArray[i]? = some o' := by rw [List.getElem?_toArray, ← znth_eq]; exact ho
        unfold wpOp
        simp only [ho', zyl_eq, hw, if_true]
        refine .inl (k _ fun v W hr hg => ⟨hr, ?_⟩)
        have hg' : Go P fn R ⟨n, ks, .any sf all f (i :: done), zput kv o'.dst v⟩ W := by
          have e : znx ⟨n, ks, .one sf all f done i, kv⟩ v = ⟨n, ks, .any sf all f (i :: done), zput kv o'.dst v⟩ := by simp only [znx, ho]
          rw [← e]; exact hg
        have := hg' hs
        rw [← zact_put] at this
        exact wpAnyH_str (fun V hV => sf.trans hr hV) this
      · cases h
    · cases h
  | tak sf all f done i => cases he
  | any sf all f done => cases h
  | code c => cases h
  | ex e => cases h
/-- an operation that leaves the world -/
theorem zgov {s : Zs} {o : Oper} {v : Value} (h : zop s = some o) (hv : ∀ V, (V = w ∨ zeff s = false ∧ zrel s w V) → (execOp (zact s.n s.kv).eval o).run P V = .ok (.value v) V) (k : Go P fn R (znx s v) w) : Go P fn R s w := by
  by_cases he : zeff s = true
  · exact zgo h he fun K hK => op_val (hv w (.inl rfl)) (hK _ _ (zrel_below _ (Below.refl _ _)) k)
  · obtain ⟨n, ks, c, kv⟩ := s
    cases c with
    | tak sf all f done i =>
      unfold zop at h
      dsimp only at h
      split at h
      · rename_i o' ho
        split at h
        · rename_i hw
          obtain rfl : o' = o := by simpa using h
          intro h1 h2 hs
          have ho' : all.toArray[i]? = some o' := by rw [List.getElem?_toArray, ← znth_eq]; exact ho
          have hg' : Go P fn R ⟨n, ks, .any sf all f (i :: done), zput kv o'.dst v⟩ w := by
            have e : znx ⟨n, ks, .tak sf all f done i, kv⟩ v = ⟨n, ks, .any sf all f (i :: done), zput kv o'.dst v⟩ := by simp only [znx, ho]
            rw [← e]; exact k
          have := hg' hs
          rw [← zact_put, ← zL_set] at this
          exact wpAnyH_take ho' hs h1 (by rw [zready_eq]; exact h2) (KQ_put P fn R ks _ _) (.inl ⟨by rw [zyl_eq]; exact hw, fun V hV => hv V (.inr ⟨rfl, hV⟩)⟩) (sf.refl w) this
        · cases h
      · cases h
    | _ => exact absurd rfl he
end

/-! ### the rules -/
def zargs : Nat → List Value → List (Nat × Value)
  | _, [] => []
  | i, v :: r => (i, v) :: zargs (i + 1) r
theorem zargs_lk : ∀ (l : List Value) (i k : Nat), i ≤ k → zlk (zargs i l) k = (l[k - i]?).getD undef
  | [], _, _, _ => rfl
  | v :: r, i, k, h => by
    rw [zargs, zlk_cons]
    by_cases e : i = k
    · subst e; simp
    · rw [if_neg e, zargs_lk r (i + 1) k (by omega), show k - i = (k - (i + 1)) + 1 by omega, List.getElem?_cons_succ]
def zbody (fn : Func) : Code := match fn.body with
  | some c => c
  | none => .skip
theorem zact_args (args : Array Value) (m : Nat) : (⟨args ++ Array.replicate (m - args.size) undef, []⟩ : Act) = zact (args.size + (m - args.size)) (zargs 0 args.toList) := by
  unfold zact
  congr 1
  apply Array.ext_getElem?
  intro i
  rw [Array.getElem?_append]
  conv => rhs; rw [List.getElem?_toArray, List.getElem?_map]
  by_cases h : i < args.size + (m - args.size)
  · rw [List.getElem?_range h, Option.map_some, zargs_lk _ _ _ (Nat.zero_le _)]
    by_cases h2 : i < args.size
    · simp [h2]
    · rw [if_neg h2, Array.getElem?_replicate, if_pos (by omega)]
      simp [h2]
  · have : (List.range (args.size + (m - args.size)))[i]? = none := by simp; omega
    rw [this, if_neg (by omega), Array.getElem?_replicate, if_neg (by omega)]
    rfl
/-- the size of a type is this -/
def zsz (P : Program) (t : TypeId) (n : Nat) : Bool := match P.info? t with
  | some i => Nat.beq i.size n
  | none => false
theorem zsz_eq {P : Program} {t : TypeId} {n : Nat} (h : zsz P t n = true) : (P.info? t).map (·.size) = some n := by
  unfold zsz at h
  split at h
  · rename_i i hi
    rw [hi]
    simp [Nat.eq_of_beq_eq_true h]
  · cases h
def zrow (P : Program) (t : TypeId) : Bool := match P.underlying t with
  | some d => d.isRow
  | none => false
/-- cells from an address on -/
def RangeP (w : World) (p : Addr) (cs : List Value) : Prop := ∃ b off, p = ⟨b, off, none⟩ ∧ w.rangeAt b off cs
theorem Blk.rp {w : World} {b : Nat} {cs : List Value} {t : TypeId} (h : Blk w b cs t) : RangeP w ⟨b, 0, none⟩ cs := ⟨b, 0, rfl, h.whole⟩
theorem Blk.rpp {w : World} {b : Nat} {cs : List Value} {t : TypeId} (h : Blk w b cs t) (off n : Nat) (hn : off + n ≤ cs.length := by first | decide | simp) : RangeP w ⟨b, off, none⟩ ((cs.drop off).take n) := ⟨b, off, rfl, h.part off n hn⟩
theorem Sts.rp {α : Type} {f : α → List Value} {m : Nat} {w : World} {b : Option Addr} {c k : Nat} {l : List α} (h : Sts f w (.slice b l.length c) l) (hm : ∀ x, (f x).length = m) (dflt : α) (hk : k < l.length) (hm0 : 0 < m) : RangeP w (elemAddr b (k * m)) (f (l.getD k dflt)) := by
  obtain ⟨g, og, rfl⟩ := h.at hm hm0 (by omega)
  refine ⟨g, og + k * m, by simp [elemAddr, Addr.add_mid], fun j v hj => ?_⟩
  have := (h.cell hm dflt hk hj).2
  simpa [elemAddr, Addr.add_mid] using this
theorem RangeP.below {w V : World} {p : Addr} {cs : List Value} (h : RangeP w p cs) (hb : Below w.heap.size w V) : RangeP V p cs := by
  obtain ⟨b, off, e, h⟩ := h
  exact ⟨b, off, e, fun j v hj => getC hb (h j v hj)⟩
noncomputable section
variable (P : Program) (s : Zs)
/-- an operation at hand that may be taken in every world below -/
def zplain : Bool := match s.c with
  | .tak sf _ _ _ _ => match sf with
    | .z => true
    | .t _ _ => false
  | .any _ _ _ _ => false
  | _ => true
def zisops : Bool := match s.c with
  | .ops _ _ => true
  | _ => false
def zsf : Option SF := match s.c with
  | .one sf _ _ _ _ => some sf
  | _ => none
def ztsf : Option SF := match s.c with
  | .tak sf _ _ _ _ => some sf
  | _ => none
def zld : Option Addr := match zop s with
  | some o => match o.op with
    | .load t x => match aggB P t with
      | some b => Bool.rec (motive := fun _ => Option Addr) (match zev s.n s.kv x with
        | .pointer (some p) => some p
        | _ => none) none b
      | none => none
    | _ => none
  | none => none
def zldv (n : Nat) : Option Addr := match zop s with
  | some o => match o.op with
    | .load t x => match zrow P t && zsz P t n with
      | true => match zev s.n s.kv x with
        | .pointer (some p) => some p
        | _ => none
      | false => none
    | _ => none
  | none => none
def zldb (n : Nat) : Option (Nat × Nat) := match zld P s with
  | some ⟨b, off, sp⟩ => match sp with
    | none => Bool.rec (motive := fun _ => Option (Nat × Nat)) none (some (b, off)) (Nat.blt off n)
    | some _ => none
  | none => none
def zst : Option (Addr × Value) := match zop s with
  | some o => match o.op with
    | .store t x y => match zsz P t 1 with
      | true => match zev s.n s.kv x with
        | .pointer (some p) => match (zev s.n s.kv y).oneCell' with
          | true => some (p, zev s.n s.kv y)
          | false => none
        | _ => none
      | false => none
    | _ => none
  | none => none
def zstc (cs : List Value) : Option (Nat × List Value) := match zst P s with
  | some (⟨b, off, sp⟩, v) => match sp with
    | none => Bool.rec (motive := fun _ => Option (Nat × List Value)) none (some (b, cs.set off v)) (Nat.blt off cs.length)
    | some _ => none
  | none => none
def zstv : Option (Addr × List Value) := match zop s with
  | some o => match o.op with
    | .store t x y => match zev s.n s.kv y with
      | .agg vs => match zsz P t vs.size with
        | true => match zev s.n s.kv x with
          | .pointer (some p) => some (p, vs.toList)
          | _ => none
        | false => none
      | _ => none
    | _ => none
  | none => none
def zstvc (cs : List Value) : Option (Nat × List Value) := match zstv P s with
  | some (⟨b, off, sp⟩, vs) => match sp with
    | none => match vs.all (·.oneCell') && Nat.ble (off + vs.length) cs.length with
      | true => some (b, cs.take off ++ vs ++ cs.drop (off + vs.length))
      | false => none
    | some _ => none
  | none => none
def zal : Option (TypeId × List Value) := match zop s with
  | some o => match o.op with
    | .alloc t => match zeroOf P t with
      | some cs => some (t, cs)
      | none => none
    | .box t x => some (t, (zev s.n s.kv x).cells.toList)
    | _ => none
  | none => none
def zbs : Option (Nat × TypeId × List Value) := match zop s with
  | some o => match o.op with
    | .buildSlice t n parts => match built P t n (parts.toList.map fun p => (p.1, zev s.n s.kv p.2)) with
      | some (e, cs) => some (n, e, cs)
      | none => none
    | _ => none
  | none => none
def zb0 : Option TypeId := match zop s with
  | some o => match o.op with
    | .buildSlice t m parts => match P.underlying t with
      | some (.slice e) => match Nat.beq m 0 && parts.toList.isEmpty && (P.info? e).isSome with
        | true => some e
        | false => none
      | _ => none
    | _ => none
  | none => none
def zcl : Option (FuncId × List Value) := match zop s with
  | some o => match o.op with
    | .call c => match c.callee with
      | .value x => match zev s.n s.kv x with
        | .func (.func f) fi lb => match fi.toList with
          | [] => some (f, c.args.toList.map (zev s.n s.kv) ++ lb.toList)
          | _ => none
        | _ => none
      | _ => none
    | _ => none
  | none => none
def zpv : Option Value := match zop s with
  | some o => match pureVal P (execOp (zev s.n s.kv) o) with
    | some (.value v) => some v
    | _ => none
  | none => none
/-- an index: the slice's array, its length, the index, the size of an element -/
def zix : Option (Option Addr × Nat × Int × Nat) := match zop s with
  | some o => match o.op with
    | .indexAddr t x y => match P.underlying t with
      | some (.slice e) => match P.info? e with
        | some i => match zev s.n s.kv x with
          | .slice a n _ => match zev s.n s.kv y with
            | .int _ j => some (a, n, j, i.size)
            | _ => none
          | _ => none
        | none => none
      | _ => none
    | _ => none
  | none => none
def zcd : Option Value := match s.c with
  | .code c => match c with
    | .cond x _ _ => some (zev s.n s.kv x)
    | _ => none
  | _ => none
/-- the way that a condition opens -/
def zth (t : Bool) : Zs := match s with
  | ⟨n, ks, c, kv⟩ => match c with
    | .code c => match c with
      | .cond x a b => ⟨n, ks, .code (Bool.rec (motive := fun _ => Code) b a t), kv⟩
      | c => ⟨n, ks, .code c, kv⟩
    | c => ⟨n, ks, c, kv⟩
/-- Bools that are known now -/
def zset (is : List Nat) (t : Bool) : Zs := match s with
  | ⟨n, ks, c, kv⟩ => ⟨n, ks, c, is.map (fun i => (i, Value.bool t)) ++ kv⟩
def zrl (n : Nat) (kv : List (Nat × Value)) (l : List ResultVar) : Option (List Value) := List.rec (motive := fun _ => Option (List Value)) (some []) (fun r _ ih => match r with
  | .tmp t => match ih with
    | some vs => some (zget n kv t :: vs)
    | none => none
  | .cell _ _ => none) l
def zvs (vs : List Value) : Value := match vs with
  | [v] => v
  | vs => .tuple vs.toArray
def zfin : Bool := match s.ks with
  | [] => match s.c with
    | .ex e => match e with
      | .normal => true
      | .ret => true
      | _ => false
    | _ => false
  | _ => false
def zres (fn : Func) : Option Value := match zfin s with
  | true => match zrl s.n s.kv fn.results.toList with
    | some vs => some (zvs vs)
    | none => none
  | false => none
/-- results of which one is a block -/
def zrlc (n : Nat) (kv : List (Nat × Value)) (cs : List Value) (l : List ResultVar) : Option (Option Nat × List Value) := List.rec (motive := fun _ => Option (Option Nat × List Value)) (some (none, [])) (fun r _ ih => match r with
  | .tmp t => match ih with
    | some (o, vs) => some (o, zget n kv t :: vs)
    | none => none
  | .cell k t => match zget n kv k with
    | .pointer (some ⟨b, off, sp⟩) => match sp with
      | none => match Nat.beq off 0 && (zrow P t && zsz P t cs.length) with
        | true => match ih with
          | some (o, vs) => match o with
            | none => some (some b, .agg cs.toArray :: vs)
            | some _ => none
          | none => none
        | false => none
      | some _ => none
    | _ => none) l
def zresc (fn : Func) (cs : List Value) : Option (Nat × Value) := match zfin s with
  | true => match zrlc P s.n s.kv cs fn.results.toList with
    | some (o, vs) => match o with
      | some b => some (b, zvs vs)
      | none => none
    | none => none
  | false => none
def zisl : Bool := match s.c with
  | .code c => match c with
    | .loop _ => true
    | _ => false
  | _ => false
def zlp (n : Nat) (J : Act → World → Prop) (kv : List (Nat × Value)) : Zs := match s with
  | ⟨_, ks, c, _⟩ => match c with
    | .code c => match c with
      | .loop b => ⟨n, .jn J :: ks, .code b, kv⟩
      | _ => ⟨n, ks, .code c, kv⟩
    | c => ⟨n, ks, c, kv⟩
def zend : Option (Act → World → Prop) := match s.c with
  | .ex e => match e with
    | .normal => match s.ks with
      | .jn J :: _ => some J
      | _ => none
    | _ => none
  | _ => none
def zun (m : Nat) : Zs := match s with
  | ⟨n, ks, c, kv⟩ => match c with
    | .code c => match c with
      | .loop b => ⟨n, .rnd b m :: ks, .code b, kv⟩
      | c => ⟨n, ks, .code c, kv⟩
    | c => ⟨n, ks, c, kv⟩
/-- a region that draws its order begins -/
def zdr (sf : SF) : Zs := match s with
  | ⟨n, ks, c, kv⟩ => match c with
    | .code c => match c with
      | .region _ ops _ => ⟨n, ks, .any sf ops.toList ops.toList.length [], kv⟩
      | c => ⟨n, ks, .code c, kv⟩
    | c => ⟨n, ks, c, kv⟩
def zisd : Bool := match s.c with
  | .code c => match c with
    | .region _ ops d => d && Region.noSelect ops.toList.toArray
    | _ => false
  | _ => false
end

section
variable {P : Program} {fn : Func} {R : Ending → World → Prop} {w : World} {s : Zs}
/-- a call begins -/
theorem zin {f : FuncId} {args : Array Value} (n : Nat) (hf : P.funcs[f]? = some fn) (h : Go P fn R ⟨n, [], .code (zbody fn), zargs 0 args.toList⟩ w) (hb : fn.body.isSome = true := by kernel_rfl) (hn : args.size + (fn.ntmps - args.size) = n := by kernel_rfl) : Calls P f args w R := by
  obtain ⟨c, hc⟩ := Option.isSome_iff_exists.1 hb
  refine calls_of_wp hf hc ?_
  rw [zact_args, hn]
  have e : zbody fn = c := by unfold zbody; rw [hc]
  rw [← e]
  exact h
theorem zop_of {α : Type} {F : Oper → Option α} {a : α} (h : (match zop s with | some o => F o | none => none) = some a) : ∃ o, zop s = some o ∧ F o = some a := by
  split at h
  · exact ⟨_, by assumption, h⟩
  · cases h
theorem zplain_rel {V : World} (h : zplain s = true) (hv : V = w ∨ zeff s = false ∧ zrel s w V) : Below w.heap.size w V := by
  rcases hv with rfl | ⟨he, hr⟩
  · exact Below.refl _ _
  · obtain ⟨n, ks, c, kv⟩ := s
    cases c with
    | tak sf all f done i =>
      cases sf with
      | z => exact hr
      | t B T => cases h
    | _ => cases he
theorem ztsf_rel {V : World} {sf : SF} (h : ztsf s = some sf) (hv : V = w ∨ zeff s = false ∧ zrel s w V) : sf.rel w V := by
  rcases hv with rfl | ⟨he, hr⟩
  · exact SF.refl _ _
  · obtain ⟨n, ks, c, kv⟩ := s
    cases c with
    | tak sf' all f done i =>
      obtain rfl : sf' = sf := by simpa [ztsf] using h
      exact hr
    | _ => cases h
theorem zld_run {p : Addr} (h : zld P s = some p) : ∃ o, zop s = some o ∧ ∀ V v, V.cell? p = some v → (execOp (zact s.n s.kv).eval o).run P V = .ok (.value v) V := by
  obtain ⟨o, ho, h⟩ := zop_of h
  refine ⟨o, ho, fun V v hv => ?_⟩
  split at h
  · rename_i t x hop
    split at h
    · rename_i b hb
      cases b with
      | true => cases h
      | false =>
        dsimp only at h
        split at h
        · rename_i p' hp
          simp only [Option.some.injEq] at h
          subst h
          simp only [execOp, hop, zact_eval, hp, Sem.run_bind, run_load1 hb hv]
          rfl
        · cases h
    · cases h
  · cases h
/-- a load of one cell -/
theorem xl (q : Zq) {p : Addr} {v : Value} (hc : w.cell? p = some v) (k : Go P fn R (znx (zq P q s) v) w) (h : zld P (zq P q s) = some p := by kernel_rfl) (hz : zplain (zq P q s) = true := by kernel_rfl) : Go P fn R s w := by
  obtain ⟨o, ho, hr⟩ := zld_run h
  exact zq_sound q s (zgov ho (fun V hV => hr V v (getC (zplain_rel hz hV) hc)) k)
theorem xlt (q : Zq) {p : Addr} {v : Value} (sf : SF) (hc : ∀ V, sf.rel w V → V.cell? p = some v) (k : Go P fn R (znx (zq P q s) v) w) (h : zld P (zq P q s) = some p := by kernel_rfl) (hz : ztsf (zq P q s) = some sf := by kernel_rfl) : Go P fn R s w := by
  obtain ⟨o, ho, hr⟩ := zld_run h
  exact zq_sound q s (zgov ho (fun V hV => hr V v (hc V (ztsf_rel hz hV))) k)
theorem pk_get (cs : List Value) (i : Nat) (h : i < cs.length) : cs[i]? = some (pk cs i) := by
  induction cs generalizing i with
  | nil => simp at h
  | cons x r ih =>
    cases i with
    | zero => rfl
    | succ j => exact ih j (by simpa using h)
theorem zldb_cell {b i : Nat} {cs : List Value} {t : TypeId} {V : World} (h : zldb P s cs.length = some (b, i)) (kb : Blk V b cs t) : zld P s = some ⟨b, i, none⟩ ∧ V.cell? ⟨b, i, none⟩ = some (pk cs i) := by
  unfold zldb at h
  split at h
  · rename_i b' off sp hp
    cases sp with
    | some _ => cases h
    | none =>
      dsimp only at h
      rw [blt_dec] at h
      by_cases ho : off < cs.length
      · simp only [ho, decide_true, Option.some.injEq, Prod.mk.injEq] at h
        obtain ⟨rfl, rfl⟩ := h
        exact ⟨hp, kb.cell (pk_get cs _ ho)⟩
      · simp [ho] at h
  · cases h
/-- a load out of a block -/
theorem xb (q : Zq) (i : Nat) {b : Nat} {cs : List Value} {t : TypeId} (kb : Blk w b cs t) (k : Go P fn R (znx (zq P q s) (pk cs i)) w) (h : zldb P (zq P q s) cs.length = some (b, i) := by kernel_rfl) (hz : zplain (zq P q s) = true := by kernel_rfl) : Go P fn R s w := by
  obtain ⟨hp, hc⟩ := zldb_cell h kb
  exact xl q hc k hp hz
theorem xbt (q : Zq) (i : Nat) {b : Nat} {cs : List Value} {t : TypeId} (B : Nat) (T : List TypeId) (kb : Blk w b cs t) (k : Go P fn R (znx (zq P q s) (pk cs i)) w) (h : zldb P (zq P q s) cs.length = some (b, i) := by kernel_rfl) (hz : ztsf (zq P q s) = some (.t B T) := by kernel_rfl) (hT : T.contains t = false := by decide) : Go P fn R s w := by
  obtain ⟨hp, _⟩ := zldb_cell h kb
  exact xlt q (.t B T) (fun V hV => (zldb_cell h (kb.only hV.2 hT)).2) k hp hz
theorem zldv_run {p : Addr} {n : Nat} (h : zldv P s n = some p) : ∃ o, zop s = some o ∧ ∀ V cs, cs.length = n → RangeP V p cs → (execOp (zact s.n s.kv).eval o).run P V = .ok (.value (.agg cs.toArray)) V := by
  obtain ⟨o, ho, h⟩ := zop_of h
  refine ⟨o, ho, fun V cs hn hv => ?_⟩
  subst hn
  split at h
  · rename_i t x hop
    split at h
    · rename_i hb
      simp only [Bool.and_eq_true] at hb
      split at h
      · rename_i p' hp
        simp only [Option.some.injEq] at h
        subst h
        obtain ⟨b, off, rfl, hv⟩ := hv
        have hu := hb.1
        unfold zrow at hu
        split at hu
        · rename_i d hd
          simp only [execOp, hop, zact_eval, hp, Instr.loadAt, Instr.sureAddr, Sem.run_bind, Sem.run_pure, Result.andThen_ok, run_loadVar_mid V b off t cs d hv hd hu (zsz_eq hb.2)]
        · cases hu
      · cases h
    · cases h
  · cases h
/-- a load of several cells -/
theorem xlv (q : Zq) {p : Addr} {cs : List Value} (hc : RangeP w p cs) (k : Go P fn R (znx (zq P q s) (.agg cs.toArray)) w) (h : zldv P (zq P q s) cs.length = some p := by kernel_rfl) (hz : zplain (zq P q s) = true := by kernel_rfl) : Go P fn R s w := by
  obtain ⟨o, ho, hr⟩ := zldv_run h
  exact zq_sound q s (zgov ho (fun V hV => hr V cs rfl (hc.below (zplain_rel hz hV))) k)
theorem xlvt (q : Zq) {p : Addr} {cs : List Value} (sf : SF) (hc : ∀ V, sf.rel w V → RangeP V p cs) (k : Go P fn R (znx (zq P q s) (.agg cs.toArray)) w) (h : zldv P (zq P q s) cs.length = some p := by kernel_rfl) (hz : ztsf (zq P q s) = some sf := by kernel_rfl) : Go P fn R s w := by
  obtain ⟨o, ho, hr⟩ := zldv_run h
  exact zq_sound q s (zgov ho (fun V hV => hr V cs rfl (hc V (ztsf_rel hz hV))) k)
theorem zisops_rel {s : Zs} {w W : World} (h : zisops s = true) : zrel s w W := by
  obtain ⟨n, ks, c, kv⟩ := s
  cases c <;> first | trivial | cases h
theorem zisops_eff {s : Zs} (h : zisops s = true) : zeff s = true := by
  obtain ⟨n, ks, c, kv⟩ := s
  cases c <;> first | rfl | cases h
theorem zsf_rel {s : Zs} {sf : SF} {w W : World} (h : zsf s = some sf) (hr : sf.rel w W) : zrel s w W := by
  obtain ⟨n, ks, c, kv⟩ := s
  cases c with
  | one sf' _ _ _ _ =>
    obtain rfl : sf' = sf := by simpa [zsf] using h
    exact hr
  | _ => cases h
theorem zsf_eff {s : Zs} {sf : SF} (h : zsf s = some sf) : zeff s = true := by
  obtain ⟨n, ks, c, kv⟩ := s
  cases c <;> first | rfl | cases h
theorem zst_op {b off : Nat} {v : Value} {cs : List Value} {t : TypeId} (h : zst P s = some (⟨b, off, none⟩, v)) (kb : Blk w b cs t) (hoff : off < cs.length) (he : zeff s = true) (k : ∀ W, Upd w b W → Blk W b (cs.set off v) t → zrel s w W ∧ Go P fn R (znx s undef) W) : Go P fn R s w := by
  obtain ⟨o, ho, h⟩ := zop_of h
  refine zgo ho he fun K hK => ?_
  split at h
  · rename_i t x y hop
    split at h
    · rename_i hs
      split at h
      · rename_i p hp
        split at h
        · rename_i h1
          simp only [Option.some.injEq, Prod.mk.injEq] at h
          obtain ⟨rfl, rfl⟩ := h
          exact op_store hop (by rw [zact_eval]; exact hp) (by rw [zact_eval]) (zsz_eq hs) h1 kb hoff fun W u kW => hK _ _ (k W u kW).1 (k W u kW).2
        · cases h
      · cases h
    · cases h
  · cases h
theorem zstc_op {b : Nat} {cs cs' : List Value} {t : TypeId} (h : zstc P s cs = some (b, cs')) (kb : Blk w b cs t) (he : zeff s = true) (k : ∀ W, Upd w b W → Blk W b cs' t → zrel s w W ∧ Go P fn R (znx s undef) W) : Go P fn R s w := by
  unfold zstc at h
  split at h
  · rename_i b' off sp v hp
    cases sp with
    | some _ => cases h
    | none =>
      dsimp only at h
      rw [blt_dec] at h
      by_cases ho : off < cs.length
      · simp only [ho, decide_true, Option.some.injEq, Prod.mk.injEq] at h
        obtain ⟨rfl, rfl⟩ := h
        exact zst_op hp kb ho he k
      · simp [ho] at h
  · cases h
/-- a store into a block -/
theorem xs (q : Zq) {b : Nat} {cs : List Value} {t : TypeId} (kb : Blk w b cs t) (cs' : List Value) (k : ∀ W, Upd w b W → Blk W b cs' t → Go P fn R (znx (zq P q s) undef) W) (h : zstc P (zq P q s) cs = some (b, cs') := by kernel_rfl) (hz : zisops (zq P q s) = true := by kernel_rfl) : Go P fn R s w :=
  zq_sound q s (zstc_op h kb (zisops_eff hz) fun W u kW => ⟨zisops_rel hz, k W u kW⟩)
theorem ys (q : Zq) {b : Nat} {cs : List Value} {t : TypeId} (kb : Blk w b cs t) (cs' : List Value) (sf : SF) (k : ∀ W, Upd w b W → Blk W b cs' t → sf.rel w W ∧ Go P fn R (znx (zq P q s) undef) W) (h : zstc P (zq P q s) cs = some (b, cs') := by kernel_rfl) (hz : zsf (zq P q s) = some sf := by kernel_rfl) : Go P fn R s w :=
  zq_sound q s (zstc_op h kb (zsf_eff hz) fun W u kW => ⟨zsf_rel hz (k W u kW).1, (k W u kW).2⟩)
theorem xsg (q : Zq) {b : Nat} {cs : List Value} {t : TypeId} (kb : Blk w b cs t) (off : Nat) (v : Value) (hoff : off < cs.length) (k : ∀ W, Upd w b W → Blk W b (cs.set off v) t → Go P fn R (znx (zq P q s) undef) W) (h : zst P (zq P q s) = some (⟨b, off, none⟩, v) := by kernel_rfl) (hz : zisops (zq P q s) = true := by kernel_rfl) : Go P fn R s w :=
  zq_sound q s (zst_op h kb hoff (zisops_eff hz) fun W u kW => ⟨zisops_rel hz, k W u kW⟩)
theorem ysg (q : Zq) {b : Nat} {cs : List Value} {t : TypeId} (kb : Blk w b cs t) (off : Nat) (v : Value) (hoff : off < cs.length) (sf : SF) (k : ∀ W, Upd w b W → Blk W b (cs.set off v) t → sf.rel w W ∧ Go P fn R (znx (zq P q s) undef) W) (h : zst P (zq P q s) = some (⟨b, off, none⟩, v) := by kernel_rfl) (hz : zsf (zq P q s) = some sf := by kernel_rfl) : Go P fn R s w :=
  zq_sound q s (zst_op h kb hoff (zsf_eff hz) fun W u kW => ⟨zsf_rel hz (k W u kW).1, (k W u kW).2⟩)
theorem zstv_op {b off : Nat} {vs cs : List Value} {t : TypeId} (h : zstv P s = some (⟨b, off, none⟩, vs)) (h1 : ∀ v ∈ vs, v.oneCell' = true) (kb : Blk w b cs t) (hoff : off + vs.length ≤ cs.length) (he : zeff s = true) (k : ∀ W, Upd w b W → Blk W b (cs.take off ++ vs ++ cs.drop (off + vs.length)) t → zrel s w W ∧ Go P fn R (znx s undef) W) : Go P fn R s w := by
  obtain ⟨o, ho, h⟩ := zop_of h
  refine zgo ho he fun K hK => ?_
  split at h
  · rename_i t x y hop
    split at h
    · rename_i vs' hv
      split at h
      · rename_i hs
        split at h
        · rename_i p hp
          simp only [Option.some.injEq, Prod.mk.injEq] at h
          obtain ⟨rfl, rfl⟩ := h
          exact op_storev _ hop (by rw [zact_eval]; exact hp) (by rw [zact_eval]; exact hv) (by rw [zsz_eq hs]; simp) h1 kb hoff fun W u kW => hK _ _ (k W u kW).1 (k W u kW).2
        · cases h
      · cases h
    · cases h
  · cases h
theorem zstvc_op {b : Nat} {cs cs' : List Value} {t : TypeId} (h : zstvc P s cs = some (b, cs')) (kb : Blk w b cs t) (he : zeff s = true) (k : ∀ W, Upd w b W → Blk W b cs' t → zrel s w W ∧ Go P fn R (znx s undef) W) : Go P fn R s w := by
  unfold zstvc at h
  split at h
  · rename_i b' off sp vs hp
    cases sp with
    | some _ => cases h
    | none =>
      dsimp only at h
      split at h
      · rename_i hc
        simp only [Bool.and_eq_true, List.all_eq_true] at hc
        simp only [Option.some.injEq, Prod.mk.injEq] at h
        obtain ⟨rfl, rfl⟩ := h
        exact zstv_op hp hc.1 kb (Nat.le_of_ble_eq_true hc.2) he k
      · cases h
  · cases h
theorem xsv (q : Zq) {b : Nat} {cs : List Value} {t : TypeId} (kb : Blk w b cs t) (cs' : List Value) (k : ∀ W, Upd w b W → Blk W b cs' t → Go P fn R (znx (zq P q s) undef) W) (h : zstvc P (zq P q s) cs = some (b, cs') := by kernel_rfl) (hz : zisops (zq P q s) = true := by kernel_rfl) : Go P fn R s w :=
  zq_sound q s (zstvc_op h kb (zisops_eff hz) fun W u kW => ⟨zisops_rel hz, k W u kW⟩)
theorem ysv (q : Zq) {b : Nat} {cs : List Value} {t : TypeId} (kb : Blk w b cs t) (cs' : List Value) (sf : SF) (k : ∀ W, Upd w b W → Blk W b cs' t → sf.rel w W ∧ Go P fn R (znx (zq P q s) undef) W) (h : zstvc P (zq P q s) cs = some (b, cs') := by kernel_rfl) (hz : zsf (zq P q s) = some sf := by kernel_rfl) : Go P fn R s w :=
  zq_sound q s (zstvc_op h kb (zsf_eff hz) fun W u kW => ⟨zsf_rel hz (k W u kW).1, (k W u kW).2⟩)
theorem xsvg (q : Zq) {b : Nat} {cs : List Value} {t : TypeId} (kb : Blk w b cs t) (off : Nat) (vs : List Value) (h1 : ∀ v ∈ vs, v.oneCell' = true) (hoff : off + vs.length ≤ cs.length) (k : ∀ W, Upd w b W → Blk W b (cs.take off ++ vs ++ cs.drop (off + vs.length)) t → Go P fn R (znx (zq P q s) undef) W) (h : zstv P (zq P q s) = some (⟨b, off, none⟩, vs) := by kernel_rfl) (hz : zisops (zq P q s) = true := by kernel_rfl) : Go P fn R s w :=
  zq_sound q s (zstv_op h h1 kb hoff (zisops_eff hz) fun W u kW => ⟨zisops_rel hz, k W u kW⟩)
theorem ysvg (q : Zq) {b : Nat} {cs : List Value} {t : TypeId} (kb : Blk w b cs t) (off : Nat) (vs : List Value) (h1 : ∀ v ∈ vs, v.oneCell' = true) (hoff : off + vs.length ≤ cs.length) (sf : SF) (k : ∀ W, Upd w b W → Blk W b (cs.take off ++ vs ++ cs.drop (off + vs.length)) t → sf.rel w W ∧ Go P fn R (znx (zq P q s) undef) W) (h : zstv P (zq P q s) = some (⟨b, off, none⟩, vs) := by kernel_rfl) (hz : zsf (zq P q s) = some sf := by kernel_rfl) : Go P fn R s w :=
  zq_sound q s (zstv_op h h1 kb hoff (zsf_eff hz) fun W u kW => ⟨zsf_rel hz (k W u kW).1, (k W u kW).2⟩)
/-- a new block -/
theorem xa (q : Zq) (cs : List Value) (t : TypeId) (k : ∀ b W, New w b cs t W → Go P fn R (znx (zq P q s) (.pointer (some ⟨b, 0, none⟩))) W) (h : zal P (zq P q s) = some (t, cs) := by kernel_rfl) (hz : zeff (zq P q s) = true := by kernel_rfl) : Go P fn R s w := by
  obtain ⟨o, ho, h⟩ := zop_of h
  refine zq_sound q s (zgo ho hz fun K hK => ?_)
  split at h
  · rename_i t' hop
    split at h
    · rename_i cs' hc
      simp only [Option.some.injEq, Prod.mk.injEq] at h
      obtain ⟨rfl, rfl⟩ := h
      exact op_alloc _ hop hc fun b W n => hK _ _ (zrel_below _ n.below) (k b W n)
    · cases h
  · rename_i t' x hop
    simp only [Option.some.injEq, Prod.mk.injEq] at h
    obtain ⟨rfl, rfl⟩ := h
    exact op_box _ hop (by rw [zact_eval, Array.toArray_toList]) fun b W n => hK _ _ (zrel_below _ n.below) (k b W n)
  · cases h
theorem xbs (q : Zq) (m : Nat) (cs : List Value) (t : TypeId) (k : ∀ b W, New w b cs t W → Go P fn R (znx (zq P q s) (.slice (some ⟨b, 0, none⟩) m m)) W) (h : zbs P (zq P q s) = some (m, t, cs) := by kernel_rfl) (hz : zeff (zq P q s) = true := by kernel_rfl) : Go P fn R s w := by
  obtain ⟨o, ho, h⟩ := zop_of h
  refine zq_sound q s (zgo ho hz fun K hK => ?_)
  split at h
  · rename_i t' m' parts hop
    split at h
    · rename_i e cs' hc
      simp only [Option.some.injEq, Prod.mk.injEq] at h
      obtain ⟨rfl, rfl, rfl⟩ := h
      exact op_buildSlice _ _ hop (by rw [zact_eval]; exact hc) fun b W n => hK _ _ (zrel_below _ n.below) (k b W n)
    · cases h
  · cases h
theorem xb0 (q : Zq) (e : TypeId) (k : ∀ b W, New w b [] e W → Go P fn R (znx (zq P q s) (.slice (some ⟨b, 0, none⟩) 0 0)) W) (h : zb0 P (zq P q s) = some e := by kernel_rfl) (hz : zeff (zq P q s) = true := by kernel_rfl) : Go P fn R s w := by
  obtain ⟨o, ho, h⟩ := zop_of h
  refine zq_sound q s (zgo ho hz fun K hK => ?_)
  split at h
  · rename_i t m parts hop
    split at h
    · rename_i e' hu
      split at h
      · rename_i hc
        simp only [Option.some.injEq] at h
        subst h
        simp only [Bool.and_eq_true, List.isEmpty_iff] at hc
        obtain ⟨⟨h1, h2⟩, h3⟩ := hc
        obtain rfl : m = 0 := Nat.eq_of_beq_eq_true h1
        obtain rfl : parts = #[] := by apply Array.ext'; simpa using h2
        exact op_buildSlice0 hop hu h3 fun b W n => hK _ _ (zrel_below _ n.below) (k b W n)
      · cases h
    · cases h
  · cases h
/-- how a call goes on -/
@[reducible] def zret (P : Program) (fn : Func) (R : Ending → World → Prop) (s : Zs) (e : Ending) (W : World) : Prop := match e with
  | .returned v => Go P fn R (znx s v) W
  | _ => False
@[reducible] def zretd (P : Program) (fn : Func) (R : Ending → World → Prop) (s : Zs) (sf : SF) (w : World) (e : Ending) (W : World) : Prop := match e with
  | .returned v => sf.rel w W ∧ Go P fn R (znx s v) W
  | _ => False
theorem zcl_op {f : FuncId} {args : Array Value} {post : Ending → World → Prop} (h : zcl s = some (f, args.toList)) (he : zeff s = true) (hf : ∀ xs w, (callFunc f xs).run P w = .ok (.enter f xs) w) (hc : Calls P f args w post) (k : ∀ e W, post e W → ∃ v, e = .returned v ∧ zrel s w W ∧ Go P fn R (znx s v) W) : Go P fn R s w := by
  obtain ⟨o, ho, h⟩ := zop_of h
  refine zgo ho he fun K hK => ?_
  split at h
  · rename_i c hop
    split at h
    · rename_i x hcal
      split at h
      · rename_i f' fi lb hx
        split at h
        · rename_i hfi
          simp only [Option.some.injEq, Prod.mk.injEq] at h
          obtain ⟨rfl, ha⟩ := h
          obtain ⟨callee, cargs, cts⟩ := c
          dsimp only at hcal ha
          subst hcal
          have hfi' : fi = #[] := by apply Array.ext'; simpa using hfi
          subst hfi'
          refine op_call (lb := lb) f' args hop (by rw [zact_eval]; exact hx) hf ?_ (hc.mono fun e W hp => ?_)
          · apply Array.ext'
            rw [← ha, zact_eval]
            simp
          · obtain ⟨v, rfl, hr, hg⟩ := k e W hp
            exact ⟨v, rfl, hK _ _ hr hg⟩
        · cases h
      · cases h
    · cases h
  · cases h
/-- a call -/
theorem xc (q : Zq) {f : FuncId} {args : Array Value} {post : Ending → World → Prop} (hc : Calls P f args w post) (k : ∀ e W, post e W → zret P fn R (zq P q s) e W) (h : zcl (zq P q s) = some (f, args.toList) := by kernel_rfl) (hz : zisops (zq P q s) = true := by kernel_rfl) (hf : ∀ xs w, (callFunc f xs).run P w = .ok (.enter f xs) w := by intro _ _; kernel_rfl) : Go P fn R s w :=
  zq_sound q s (zcl_op h (zisops_eff hz) hf hc fun e W hp => by
    have := k e W hp
    cases e with
    | returned v => exact ⟨v, rfl, zisops_rel hz, this⟩
    | _ => exact this.elim)
theorem yc (q : Zq) {f : FuncId} {args : Array Value} {post : Ending → World → Prop} (sf : SF) (hc : Calls P f args w post) (k : ∀ e W, post e W → zretd P fn R (zq P q s) sf w e W) (h : zcl (zq P q s) = some (f, args.toList) := by kernel_rfl) (hz : zsf (zq P q s) = some sf := by kernel_rfl) (hf : ∀ xs w, (callFunc f xs).run P w = .ok (.enter f xs) w := by intro _ _; kernel_rfl) : Go P fn R s w :=
  zq_sound q s (zcl_op h (zsf_eff hz) hf hc fun e W hp => by
    have := k e W hp
    cases e with
    | returned v => exact ⟨v, rfl, zsf_rel hz this.1, this.2⟩
    | _ => exact this.elim)
/-- a call that returns one value and leaves what stood -/
theorem xr (q : Zq) {f : FuncId} {args : Array Value} {v : Value} (hc : Calls P f args w (Ret v w)) (k : ∀ W, Below w.heap.size w W → Go P fn R (znx (zq P q s) v) W) (h : zcl (zq P q s) = some (f, args.toList) := by kernel_rfl) (hz : zeff (zq P q s) = true := by kernel_rfl) (hf : ∀ xs w, (callFunc f xs).run P w = .ok (.enter f xs) w := by intro _ _; kernel_rfl) : Go P fn R s w :=
  zq_sound q s (zcl_op h hz hf hc fun e W hp => ⟨v, hp.1, zrel_below _ hp.2, k W hp.2⟩)
/-- a value that is said in another way -/
theorem xq (q : Zq) {v v' : Value} (e : v' = v) (k : Go P fn R (znx (zq P q s) v) w) (h : zpv P (zq P q s) = some v' := by kernel_rfl) : Go P fn R s w := by
  obtain ⟨o, ho, h⟩ := zop_of h
  refine zq_sound q s (zgov ho (fun V _ => ?_) k)
  split at h
  · rename_i v2 hv
    simp only [Option.some.injEq] at h
    subst h e
    rw [zact_eval]
    exact pureVal_run hv V
  · cases h
theorem xw (q : Zq) (n : Int) (k : Go P fn R (znx (zq P q s) (.int .i64 n)) w) (h : zpv P (zq P q s) = some (.int .i64 (IntKind.i64.wrap n)) := by kernel_rfl) (hb : -9223372036854775808 ≤ n ∧ n ≤ 9223372036854775807 := by omega) : Go P fn R s w :=
  xq q (congrArg (Value.int .i64) (IntWalk.i64_in n hb)) k h
theorem xwm (q : Zq) (n m : Int) (k : Go P fn R (znx (zq P q s) (.int .i64 m)) w) (h : zpv P (zq P q s) = some (.int .i64 (IntKind.i64.wrap n)) := by kernel_rfl) (hb : (-9223372036854775808 ≤ n ∧ n ≤ 9223372036854775807) ∧ n = m := by omega) : Go P fn R s w :=
  xq q (congrArg (Value.int .i64) ((IntWalk.i64_in n hb.1).trans hb.2)) k h
/-- a condition -/
theorem zcd_op {t : Bool} (h : zcd s = some (.bool t)) (k : Go P fn R (zth s t) w) : Go P fn R s w := by
  obtain ⟨n, ks, c, kv⟩ := s
  cases c with
  | code c =>
    cases c with
    | cond x a b =>
      have hx : zev n kv x = .bool t := by simpa [zcd] using h
      refine wp_cond (t := t) (by rw [zact_eval]; exact hx) ?_
      cases t <;> exact k
    | _ => cases h
  | _ => cases h
theorem xi (q : Zq) (t : Bool) (ht : t = true → Go P fn R (zth (zq P q s) true) w) (hf : t = false → Go P fn R (zth (zq P q s) false) w) (h : zcd (zq P q s) = some (.bool t) := by kernel_rfl) : Go P fn R s w := by
  refine zq_sound q s (zcd_op h ?_)
  cases t
  · exact hf rfl
  · exact ht rfl
theorem xid (q : Zq) (p : Prop) [Decidable p] (ht : p → Go P fn R (zth (zq P q s) true) w) (hf : ¬p → Go P fn R (zth (zq P q s) false) w) (h : zcd (zq P q s) = some (.bool (decide p)) := by kernel_rfl) : Go P fn R s w :=
  xi q _ (fun e => ht (of_decide_eq_true e)) (fun e => hf (of_decide_eq_false e)) h
theorem xie (q : Zq) (a b : Int) (ht : a = b → Go P fn R (zth (zq P q s) true) w) (hf : a ≠ b → Go P fn R (zth (zq P q s) false) w) (h : zcd (zq P q s) = some (.bool (a == b)) := by kernel_rfl) : Go P fn R s w :=
  xi q _ (fun e => ht (eq_of_beq e)) (fun e => hf (ne_of_beq_false e)) h
theorem xin (q : Zq) (a b : Int) (ht : a ≠ b → Go P fn R (zth (zq P q s) true) w) (hf : a = b → Go P fn R (zth (zq P q s) false) w) (h : zcd (zq P q s) = some (.bool (a != b)) := by kernel_rfl) : Go P fn R s w :=
  xi q _ (fun e => ht (ne_of_bne e)) (fun e => hf (eq_of_bne_false e)) h
/-- a condition that is known -/
theorem xk (q : Zq) {t u : Bool} (e : t = u) (k : Go P fn R (zth (zq P q s) u) w) (h : zcd (zq P q s) = some (.bool t) := by kernel_rfl) : Go P fn R s w :=
  zq_sound q s (zcd_op h (e ▸ k))
theorem zlk_set (is : List Nat) (v : Value) (kv : List (Nat × Value)) (h : is.map (zlk kv) = is.map fun _ => v) (k : Nat) : zlk (is.map (fun i => (i, v)) ++ kv) k = zlk kv k := by
  induction is with
  | nil => rfl
  | cons i r ih =>
    simp only [List.map_cons, List.cons.injEq] at h
    rw [List.map_cons, List.cons_append, zlk_cons]
    by_cases e : i = k
    · subst e; rw [if_pos rfl]; exact h.1.symm
    · rw [if_neg e]; exact ih h.2
theorem zset_op {is : List Nat} {t : Bool} (h : is.map (zlk s.kv) = is.map fun _ => Value.bool t) (k : Go P fn R (zset s is t) w) : Go P fn R s w := by
  obtain ⟨n, ks, c, kv⟩ := s
  have e : zact n (is.map (fun i => (i, Value.bool t)) ++ kv) = zact n kv := by
    unfold zact
    rw [show zlk (is.map (fun i => (i, Value.bool t)) ++ kv) = zlk kv from funext fun j => zlk_set is _ kv h j]
  have k' : Go P fn R ⟨n, ks, c, is.map (fun i => (i, Value.bool t)) ++ kv⟩ w := k
  unfold Go at k' ⊢
  dsimp only at k' ⊢
  rw [e] at k'
  exact k'
/-- a Bool in the frame comes to be known -/
theorem xg (q : Zq) (is : List Nat) (t : Bool) (ht : t = true → Go P fn R (zset (zq P q s) is true) w) (hf : t = false → Go P fn R (zset (zq P q s) is false) w) (h : is.map (zlk (zq P q s).kv) = is.map (fun _ => Value.bool t) := by kernel_rfl) : Go P fn R s w := by
  refine zq_sound q s (zset_op h ?_)
  cases t
  · exact hf rfl
  · exact ht rfl
theorem xgk (q : Zq) (is : List Nat) {t u : Bool} (e : t = u) (k : Go P fn R (zset (zq P q s) is u) w) (h : is.map (zlk (zq P q s).kv) = is.map (fun _ => Value.bool t) := by kernel_rfl) : Go P fn R s w :=
  zq_sound q s (zset_op h (e ▸ k))
/-- a slot's value, said in another way -/
noncomputable def zputs (i : Nat) (v : Value) (s : Zs) : Zs := match s with
  | ⟨n, ks, c, kv⟩ => ⟨n, ks, c, (i, v) :: kv⟩
theorem xv1 (q : Zq) (i : Nat) {v v' : Value} (e : v' = v) (k : Go P fn R (zputs i v (zq P q s)) w) (h : zlk (zq P q s).kv i = v' := by kernel_rfl) : Go P fn R s w := by
  refine zq_sound q s ?_
  revert k h
  generalize zq P q s = s'
  intro k h
  obtain ⟨n, ks, c, kv⟩ := s'
  have e2 : zact n ((i, v) :: kv) = zact n kv := by
    unfold zact
    rw [show zlk ((i, v) :: kv) = zlk kv from funext fun j => by
      rw [zlk_cons]
      by_cases hj : i = j
      · subst hj; rw [if_pos rfl, ← e]; exact h.symm
      · rw [if_neg hj]]
  have k' : Go P fn R ⟨n, ks, c, (i, v) :: kv⟩ w := k
  unfold Go at k' ⊢
  dsimp only at k' ⊢
  rw [e2] at k'
  exact k'
/-- the end -/
def zrf (tmps : Array Value) : ResultVar → Sem Value
  | .tmp t => pure (tmps.getD t undef)
  | .cell a t => do loadVar t (← asAddr (tmps.getD a undef))
theorem results_eq (fn : Func) (tmps : Array Value) : results fn tmps = (do let vs ← fn.results.mapM (zrf tmps); pure (if h : vs.size = 1 then vs[0] else .tuple vs)) := by
  unfold results
  congr 1
theorem zrl_run (n : Nat) (kv : List (Nat × Value)) (P : Program) (w : World) : ∀ (l : List ResultVar) (vs : List Value), zrl n kv l = some vs → (l.mapM (zrf (zact n kv).tmps)).run P w = .ok vs w
  | [], vs, h => by cases h; rfl
  | r :: l, vs, h => by
    cases r with
    | cell a t => cases h
    | tmp t =>
      have h' : (match zrl n kv l with | some vs => some (zget n kv t :: vs) | none => none) = some vs := h
      split at h'
      · rename_i vs' hv
        simp only [Option.some.injEq] at h'
        subst h'
        rw [List.mapM_cons]
        simp only [zrf, Sem.run_bind, Sem.run_pure, Result.andThen_ok, zrl_run n kv P w l vs' hv, zact_getD]
      · cases h'
theorem results_run {tmps : Array Value} {vs : List Value} (h : (fn.results.toList.mapM (zrf tmps)).run P w = .ok vs w) : (results fn tmps).run P w = .ok (zvs vs) w := by
  rw [results_eq]
  have e : fn.results.mapM (zrf tmps) = List.toArray <$> fn.results.toList.mapM (zrf tmps) := by
    rw [← List.mapM_toArray, Array.toArray_toList]
  rw [e]
  simp only [Sem.run_bind, map_eq_pure_bind, h, Result.andThen_ok, Sem.run_pure]
  congr 1
  match vs with
  | [] => rfl
  | [v] => rfl
  | v :: u :: r => simp [zvs]
theorem zfin_go {v : Value} (hf : zfin s = true) (hr : (results fn (zact s.n s.kv).tmps).run P w = .ok v w) (hR : R (.returned v) w) : Go P fn R s w := by
  obtain ⟨n, ks, c, kv⟩ := s
  cases ks with
  | cons _ _ => cases hf
  | nil =>
    cases c with
    | ex e =>
      cases e with
      | normal => exact g_end v rfl hr hR
      | ret => exact g_ret v rfl hr hR
      | _ => cases hf
    | _ => cases hf
theorem xe (q : Zq) (v : Value) (hR : R (.returned v) w) (h : zres (zq P q s) fn = some v := by kernel_rfl) : Go P fn R s w := by
  refine zq_sound q s ?_
  unfold zres at h
  split at h
  · rename_i hf
    split at h
    · rename_i vs hv
      simp only [Option.some.injEq] at h
      subst h
      exact zfin_go hf (results_run (zrl_run _ _ _ _ _ _ hv)) hR
    · cases h
  · cases h
theorem zrlc_run (n : Nat) (kv : List (Nat × Value)) (w : World) (cs : List Value) (b : Nat) (t : TypeId) (kb : Blk w b cs t) : ∀ (l : List ResultVar) (o : Option Nat) (vs : List Value), zrlc P n kv cs l = some (o, vs) → (o = none ∨ o = some b) → (l.mapM (zrf (zact n kv).tmps)).run P w = .ok vs w
  | [], o, vs, h, _ => by cases h; rfl
  | r :: l, o, vs, h, ho => by
    rw [List.mapM_cons]
    cases r with
    | tmp t =>
      have h' : (match zrlc P n kv cs l with | some (o, vs) => some (o, zget n kv t :: vs) | none => none) = some (o, vs) := h
      split at h'
      · rename_i o' vs' hv
        simp only [Option.some.injEq, Prod.mk.injEq] at h'
        obtain ⟨rfl, rfl⟩ := h'
        simp only [zrf, Sem.run_bind, Sem.run_pure, Result.andThen_ok, zrlc_run n kv w cs b _ kb l _ vs' hv ho, zact_getD]
      · cases h'
    | cell k t' =>
      have h' : (match zget n kv k with
        | .pointer (some ⟨b, off, sp⟩) => match sp with
          | none => match Nat.beq off 0 && (zrow P t' && zsz P t' cs.length) with
            | true => match zrlc P n kv cs l with
              | some (o, vs) => match o with
                | none => some (some b, .agg cs.toArray :: vs)
                | some _ => none
              | none => none
            | false => none
          | some _ => none
        | _ => none) = some (o, vs) := h
      split at h'
      · rename_i b' off sp hb
        cases sp with
        | some _ => cases h'
        | none =>
          dsimp only at h'
          split at h'
          · rename_i hc
            simp only [Bool.and_eq_true] at hc
            split at h'
            · rename_i o' vs' hv
              split at h'
              · simp only [Option.some.injEq, Prod.mk.injEq] at h'
                obtain ⟨rfl, rfl⟩ := h'
                obtain rfl : b' = b := by simpa using ho
                obtain rfl : off = 0 := Nat.eq_of_beq_eq_true hc.1
                have hu := hc.2.1
                unfold zrow at hu
                split at hu
                · rename_i d hd
                  have hl := run_loadVar_mid (P := P) w b' 0 t' cs d kb.whole hd hu (zsz_eq hc.2.2)
                  have e : (zact n kv).tmps.getD k undef = .pointer (some ⟨b', 0, none⟩) := by rw [zact_getD]; exact hb
                  simp only [zrf, e, asAddr, Sem.run_bind, Sem.run_pure, Result.andThen_ok, hl, zrlc_run n kv w cs b' _ kb l none vs' hv (.inl rfl)]
                · cases hu
              · cases h'
            · cases h'
          · cases h'
      · cases h'
theorem xec (q : Zq) {b : Nat} {cs : List Value} {t : TypeId} (kb : Blk w b cs t) (v : Value) (hR : R (.returned v) w) (h : zresc P (zq P q s) fn cs = some (b, v) := by kernel_rfl) : Go P fn R s w := by
  refine zq_sound q s ?_
  unfold zresc at h
  split at h
  · rename_i hf
    split at h
    · rename_i o vs hv
      split at h
      · rename_i b'
        simp only [Option.some.injEq, Prod.mk.injEq] at h
        obtain ⟨rfl, rfl⟩ := h
        exact zfin_go hf (results_run (zrlc_run _ _ _ _ _ _ kb _ _ _ hv (.inr rfl))) hR
      · cases h
    · cases h
  · cases h
/-- a loop: a relation that bears a number, which every round lowers; of the frame it tells some slots -/
theorem zlk_app (kv' kv : List (Nat × Value)) (h : kv'.map (fun p => zlk kv p.1) = kv'.map Prod.snd) (k : Nat) : zlk (kv' ++ kv) k = zlk kv k := by
  induction kv' with
  | nil => rfl
  | cons p r ih =>
    obtain ⟨d, v⟩ := p
    simp only [List.map_cons, List.cons.injEq] at h
    rw [List.cons_append, zlk_cons]
    by_cases e : d = k
    · subst e; rw [if_pos rfl]; exact h.1.symm
    · rw [if_neg e]; exact ih h.2
theorem zact_app (n : Nat) (kv' kv : List (Nat × Value)) (h : kv'.map (fun p => zlk kv p.1) = kv'.map Prod.snd) : zact n (kv' ++ kv) = zact n kv := by
  unfold zact
  rw [show zlk (kv' ++ kv) = zlk kv from funext fun j => zlk_app kv' kv h j]
theorem zl (q : Zq) (n : Nat) (I : Nat → List (Nat × Value) → World → Prop) {m0 : Nat} {kv0 : List (Nat × Value)} (h0 : I m0 kv0 w)
    (round : ∀ m kv V, I m kv V → ∀ (J : Act → World → Prop), (∀ m' kv' V', I m' kv' V' → m' < m → ∀ rest, J (zact n (kv' ++ rest)) V') → ∀ rest, Go P fn R (zlp (zq P q s) n J (kv ++ rest)) V)
    (hn : (zq P q s).n = n := by kernel_rfl) (hl : zisl (zq P q s) = true := by kernel_rfl) (hk : kv0.map (fun p => zlk (zq P q s).kv p.1) = kv0.map Prod.snd := by kernel_rfl) : Go P fn R s w := by
  refine zq_sound q s ?_
  revert hn hl hk round
  generalize zq P q s = s'
  intro round hn hl hk
  obtain ⟨n', ks, c, kv⟩ := s'
  obtain rfl : n' = n := hn
  cases c with
  | code c =>
    cases c with
    | loop b =>
      refine wp_loop_ghost (fun m a V => ∃ kv' rest, a = zact n' (kv' ++ rest) ∧ I m kv' V) m0 ⟨kv0, kv, (zact_app _ _ _ hk).symm, h0⟩ ?_
      rintro m _ V ⟨kv', rest, rfl, hI⟩
      exact round m kv' V hI _ (fun m' kv2 V' hI' hlt rest' => ⟨m', hlt, kv2, rest', rfl, hI'⟩) rest
    | _ => cases hl
  | _ => cases hl
theorem ze (q : Zq) {n : Nat} {J : Act → World → Prop} {kv' : List (Nat × Value)} (hJ : ∀ rest, J (zact n (kv' ++ rest)) w) (h : zend (zq P q s) = some J := by kernel_rfl) (hn : (zq P q s).n = n := by kernel_rfl) (hk : kv'.map (fun p => zlk (zq P q s).kv p.1) = kv'.map Prod.snd := by kernel_rfl) : Go P fn R s w := by
  refine zq_sound q s ?_
  revert h hn hk
  generalize zq P q s = s'
  intro h hn hk
  obtain ⟨n', ks, c, kv⟩ := s'
  obtain rfl : n' = n := hn
  have hJ' := hJ kv
  rw [zact_app _ _ _ hk] at hJ'
  cases c with
  | ex e =>
    cases e with
    | normal =>
      cases ks with
      | nil => cases h
      | cons k ks =>
        cases k with
        | jn J' =>
          obtain rfl : J' = J := by simpa [zend] using h
          exact hJ'
        | _ => cases h
    | _ => cases h
  | _ => cases h
/-- a loop of few rounds -/
theorem xu (q : Zq) (m : Nat) (k : Go P fn R (zun (zq P q s) m) w) (hl : zisl (zq P q s) = true := by kernel_rfl) : Go P fn R s w := by
  refine zq_sound q s ?_
  revert k hl
  generalize zq P q s = s'
  intro k hl
  obtain ⟨n', ks, c, kv⟩ := s'
  cases c with
  | code c =>
    cases c with
    | loop b => exact wp_loop_rounds (m + 1) k
    | _ => cases hl
  | _ => cases hl
/-- a region that draws its order -/
theorem xd (q : Zq) (sf : SF) (k : Go P fn R (zdr (zq P q s) sf) w.drew) (hd : zisd (zq P q s) = true := by kernel_rfl) (hm : P.follows .mixedOrders = true := by kernel_rfl) : Go P fn R s w := by
  refine zq_sound q s ?_
  revert k hd
  generalize zq P q s = s'
  intro k hd
  obtain ⟨n', ks, c, kv⟩ := s'
  cases c with
  | code c =>
    cases c with
    | region id ops d =>
      have hd' : (d && Region.noSelect ops.toList.toArray) = true := hd
      simp only [Bool.and_eq_true] at hd'
      obtain ⟨rfl, hs⟩ := hd'
      have k' : wpAnyH P .any ops.toList.toArray (KQ P fn R ks) (sf.rel w.drew) ops.toList.length (zL ops.toList.length []) (zact n' kv) w.drew := k hs
      rw [Array.toArray_toList, ← zL_nil, Array.length_toList] at k'
      exact wp_region_held_drew hm (SF.refl _ _) fun _ => k'
    | _ => cases hd
  | _ => cases hd
/-- two that may come up -/
noncomputable def zoneOf (i : Nat) (s : Zs) : Zs := match s with
  | ⟨n, ks, c, kv⟩ => match c with
    | .any sf all f done => match f with
      | f' + 1 => ⟨n, ks, .one sf all f' done i, kv⟩
      | 0 => ⟨n, ks, c, kv⟩
    | c => ⟨n, ks, c, kv⟩
noncomputable def zrdy (s : Zs) : Option (List Nat) := match s.c with
  | .any _ all f done => match f with
    | _ + 1 => some (zready all done)
    | 0 => none
  | _ => none
theorem xm (q : Zq) (is : List Nat) (k : ∀ i ∈ is, Go P fn R (zoneOf i (zq P q s)) w) (h : zrdy (zq P q s) = some is := by kernel_rfl) (hn : is.isEmpty = false := by kernel_rfl) : Go P fn R s w := by
  refine zq_sound q s ?_
  revert h k
  generalize zq P q s = s'
  intro k h
  obtain ⟨n', ks, c, kv⟩ := s'
  cases c with
  | any sf all f done =>
    cases f with
    | zero => cases h
    | succ f =>
      have hr : zready all done = is := by simpa [zrdy] using h
      intro hs
      refine wpAnyH_all (rs := is) (by rw [zready_eq]; exact hr) (by rintro rfl; cases hn) fun j hj => ?_
      rw [zL_set]
      exact k j hj hs
  | _ => cases h
theorem xm2 (q : Zq) (i j : Nat) (hi : Go P fn R (zoneOf i (zq P q s)) w) (hj : Go P fn R (zoneOf j (zq P q s)) w) (h : zrdy (zq P q s) = some [i, j] := by kernel_rfl) : Go P fn R s w :=
  xm q [i, j] (fun k hk => by rcases List.mem_cons.1 hk with rfl | hk; exact hi; obtain rfl := List.mem_singleton.1 hk; exact hj) h
theorem xm3 (q : Zq) (i j m : Nat) (hi : Go P fn R (zoneOf i (zq P q s)) w) (hj : Go P fn R (zoneOf j (zq P q s)) w) (hm : Go P fn R (zoneOf m (zq P q s)) w) (h : zrdy (zq P q s) = some [i, j, m] := by kernel_rfl) : Go P fn R s w :=
  xm q [i, j, m] (fun k hk => by rcases List.mem_cons.1 hk with rfl | hk; exact hi; rcases List.mem_cons.1 hk with rfl | hk; exact hj; obtain rfl := List.mem_singleton.1 hk; exact hm) h

end

/-! ### what is shown of the world in a drawn region -/
theorem sft_upd {B : Nat} {T : List TypeId} {w W : World} {b : Nat} {cs : List Value} {t : TypeId} (u : Upd w b W) (k : Blk w b cs t) (hb : B ≤ b) (ht : T.contains t = true) : (SF.t B T).rel w W :=
  ⟨u.below (Below.refl _ _) (Nat.le_trans (Nat.min_le_left _ _) hb), Only.of_upd u k ht⟩
theorem sft_grown {B : Nat} {T : List TypeId} {w W : World} {base size n : Nat} {e : TypeId} {v : Value} {xs : List Value} (hb : Below B w W) (hg : w.grownBy W v.ownBlock) (hown : w.ownsRow base e size v n xs) (ht : T.contains e = true) : (SF.t B T).rel w W :=
  ⟨hb.mono (Nat.min_le_left _ _), Only.of_grown hg hown ht⟩
theorem Only.wide {T T' : List TypeId} {w W : World} (h : Only T w W) (hs : T.all (fun t => T'.contains t) = true := by decide) : Only T' w W := fun i cs t fr hk ht => h i cs t fr hk (by
  cases hc : T.contains t with
  | false => rfl
  | true =>
    have := List.all_eq_true.1 hs t (by simpa using hc)
    rw [ht] at this; cases this)
theorem sft_only {B : Nat} {T T' : List TypeId} {w W : World} (hb : Below B w W) (ho : Only T w W) (hs : T.all (fun t => T'.contains t) = true := by decide) : (SF.t B T').rel w W := ⟨hb.mono (Nat.min_le_left _ _), ho.wide hs⟩
theorem sft_keep {B : Nat} {T : List TypeId} {a w V : World} (h : Below B a w) (hV : (SF.t B T).rel w V) (hB : B ≤ a.heap.size) : Below B a V := by
  refine h.trans (hV.1.mono ?_)
  have := h.size
  simp only [Nat.min_def]; split <;> omega
theorem Upd.blkT {w W : World} {b b' : Nat} {cs cs' : List Value} {t t' : TypeId} (u : Upd w b W) (k : Blk w b' cs' t') (kb : Blk w b cs t) (ht : t' ≠ t) : Blk W b' cs' t' := u.blk k (by
  rintro rfl
  have h1 : w.heap[b']? = some (.cells cs.toArray t (0, 0)) := kb
  have h2 : w.heap[b']? = some (.cells cs'.toArray t' (0, 0)) := k
  rw [h1] at h2
  simp only [Option.some.injEq, Obj.cells.injEq] at h2
  exact ht h2.2.1.symm)

theorem Blk.tne {w : World} {b b' : Nat} {cs cs' : List Value} {t t' : TypeId} (k : Blk w b cs t) (k' : Blk w b' cs' t') (ht : t ≠ t') : b ≠ b' := by
  rintro rfl
  have h1 : w.heap[b]? = some (.cells cs.toArray t (0, 0)) := k
  have h2 : w.heap[b]? = some (.cells cs'.toArray t' (0, 0)) := k'
  rw [h1] at h2
  simp only [Option.some.injEq, Obj.cells.injEq] at h2
  exact ht h2.2.1

/-! ### operations by their kind, with laws that are told of any frame -/
inductive Zk
  | cv (src dst : TypeId) (u : Value)
  | bn (b : BinOp) (t t2 : TypeId) (u v : Value)
  | ix (t : TypeId) (u v : Value)
  | sl (t : TypeId) (u : Value) (lo hi mx : Option Value)
  | bi (b : Builtin) (ts : List TypeId) (us : List Value)
  | mk (t : TypeId) (u v : Value)
  | st (t : TypeId) (u v : Value)
def oev (f : Operand → Value) (x : Option Operand) : Option Value := match x with
  | some x => some (f x)
  | none => none
noncomputable def zkf (n : Nat) (kv : List (Nat × Value)) (o : Oper) : Option Zk := match o.op with
  | .convert src dst x => some (.cv src dst (zev n kv x))
  | .binOp b t x y t2 => some (.bn b t t2 (zev n kv x) (zev n kv y))
  | .indexAddr t x y => some (.ix t (zev n kv x) (zev n kv y))
  | .slice t x lo hi mx => some (.sl t (zev n kv x) (oev (zev n kv) lo) (oev (zev n kv) hi) (oev (zev n kv) mx))
  | .call c => match c.callee with
    | .builtin b => some (.bi b c.argTypes.toList (c.args.toList.map (zev n kv)))
    | _ => none
  | .makeSlice t x y => some (.mk t (zev n kv x) (zev n kv y))
  | .store t x y => some (.st t (zev n kv x) (zev n kv y))
  | _ => none
noncomputable def zk (s : Zs) : Option Zk := match zop s with
  | some o => zkf s.n s.kv o
  | none => none
/-- what the kind says of the operation -/
def ZkOk (a : Act) (o : Oper) : Zk → Prop
  | .cv src dst u => ∃ x, o.op = .convert src dst x ∧ a.eval x = u
  | .bn b t t2 u v => ∃ x y, o.op = .binOp b t x y t2 ∧ a.eval x = u ∧ a.eval y = v
  | .ix t u v => ∃ x y, o.op = .indexAddr t x y ∧ a.eval x = u ∧ a.eval y = v
  | .sl t u lo hi mx => ∃ x l h m, o.op = .slice t x l h m ∧ a.eval x = u ∧ oev a.eval l = lo ∧ oev a.eval h = hi ∧ oev a.eval m = mx
  | .bi b ts us => ∃ xs : List Operand, o.op = .call { callee := .builtin b, args := xs.toArray, argTypes := ts.toArray } ∧ xs.map a.eval = us
  | .mk t u v => ∃ x y, o.op = .makeSlice t x y ∧ a.eval x = u ∧ a.eval y = v
  | .st t u v => ∃ x y, o.op = .store t x y ∧ a.eval x = u ∧ a.eval y = v
theorem zkf_ok {n : Nat} {kv : List (Nat × Value)} {o : Oper} {k : Zk} (h : zkf n kv o = some k) : ZkOk (zact n kv) o k := by
  unfold zkf at h
  split at h
  · rename_i hop; cases h; exact ⟨_, hop, by rw [zact_eval]⟩
  · rename_i hop; cases h; exact ⟨_, _, hop, by rw [zact_eval], by rw [zact_eval]⟩
  · rename_i hop; cases h; exact ⟨_, _, hop, by rw [zact_eval], by rw [zact_eval]⟩
  · rename_i hop; cases h; exact ⟨_, _, _, _, hop, by rw [zact_eval], by rw [zact_eval], by rw [zact_eval], by rw [zact_eval]⟩
  · rename_i c hop
    split at h
    · rename_i b hb
      cases h
      obtain ⟨cal, args, ts⟩ := c
      dsimp only at hb
      subst hb
      exact ⟨args.toList, hop, by rw [zact_eval]⟩
    · cases h
  · rename_i hop; cases h; exact ⟨_, _, hop, by rw [zact_eval], by rw [zact_eval]⟩
  · rename_i hop; cases h; exact ⟨_, _, hop, by rw [zact_eval], by rw [zact_eval]⟩
  · cases h
theorem oev_some {f : Operand → Value} {x : Option Operand} {v : Value} (h : oev f x = some v) : ∃ y, x = some y ∧ f y = v := by
  cases x with
  | none => cases h
  | some y => exact ⟨y, rfl, by simpa [oev] using h⟩
theorem oev_none {f : Operand → Value} {x : Option Operand} (h : oev f x = none) : x = none := by
  cases x with
  | none => rfl
  | some y => cases h
section
variable {P : Program} {fn : Func} {R : Ending → World → Prop} {w : World} {s : Zs}
theorem zk_val {k : Zk} {v : Value} (h : zk s = some k) (hz : zplain s = true) (hv : ∀ a o, ZkOk a o k → ∀ V, Below w.heap.size w V → (execOp a.eval o).run P V = .ok (.value v) V) (g : Go P fn R (znx s v) w) : Go P fn R s w := by
  obtain ⟨o, ho, h⟩ := zop_of h
  exact zgov ho (fun V hV => hv _ o (zkf_ok h) V (zplain_rel hz hV)) g
theorem zk_valt {k : Zk} {v : Value} {sf : SF} (h : zk s = some k) (hz : ztsf s = some sf) (hv : ∀ a o, ZkOk a o k → ∀ V, sf.rel w V → (execOp a.eval o).run P V = .ok (.value v) V) (g : Go P fn R (znx s v) w) : Go P fn R s w := by
  obtain ⟨o, ho, h⟩ := zop_of h
  exact zgov ho (fun V hV => hv _ o (zkf_ok h) V (ztsf_rel hz hV)) g
theorem zk_eff {k : Zk} (h : zk s = some k) (hz : zisops s = true) (hv : ∀ a o K Q, ZkOk a o k → (∀ v W, Go P fn R (znx s v) W → K (a.put o.dst v) W) → o.wp P a w K Q) : Go P fn R s w := by
  obtain ⟨o, ho, h⟩ := zop_of h
  exact zgo ho (zisops_eff hz) fun K hK => hv _ o K _ (zkf_ok h) fun v W g => hK v W (zisops_rel hz) g
theorem zk_efft {k : Zk} {sf : SF} (h : zk s = some k) (hz : zsf s = some sf) (hv : ∀ a o K Q, ZkOk a o k → (∀ v W, sf.rel w W → Go P fn R (znx s v) W → K (a.put o.dst v) W) → o.wp P a w K Q) : Go P fn R s w := by
  obtain ⟨o, ho, h⟩ := zop_of h
  exact zgo ho (zsf_eff hz) fun K hK => hv _ o K _ (zkf_ok h) fun v W hr g => hK v W (zsf_rel hz hr) g
/-- conversions -/
theorem xcv (q : Zq) {src dst : TypeId} {u v : Value} (hv : ∀ (a : Act) (o : Oper) (x : Operand), o.op = .convert src dst x → a.eval x = u → ∀ V, Below w.heap.size w V → (execOp a.eval o).run P V = .ok (.value v) V) (g : Go P fn R (znx (zq P q s) v) w) (h : zk (zq P q s) = some (.cv src dst u) := by kernel_rfl) (hz : zplain (zq P q s) = true := by kernel_rfl) : Go P fn R s w :=
  zq_sound q s (zk_val h hz (fun a o ⟨x, h1, h2⟩ V hV => hv a o x h1 h2 V hV) g)
theorem xcvt (q : Zq) {src dst : TypeId} {u v : Value} (sf : SF) (hv : ∀ (a : Act) (o : Oper) (x : Operand), o.op = .convert src dst x → a.eval x = u → ∀ V, sf.rel w V → (execOp a.eval o).run P V = .ok (.value v) V) (g : Go P fn R (znx (zq P q s) v) w) (h : zk (zq P q s) = some (.cv src dst u) := by kernel_rfl) (hz : ztsf (zq P q s) = some sf := by kernel_rfl) : Go P fn R s w :=
  zq_sound q s (zk_valt h hz (fun a o ⟨x, h1, h2⟩ V hV => hv a o x h1 h2 V hV) g)
theorem xcf (q : Zq) {src dst : TypeId} {u : Value} (hv : ∀ (a : Act) (o : Oper) (x : Operand) K Q, o.op = .convert src dst x → a.eval x = u → (∀ v W, Go P fn R (znx (zq P q s) v) W → K (a.put o.dst v) W) → o.wp P a w K Q) (h : zk (zq P q s) = some (.cv src dst u) := by kernel_rfl) (hz : zisops (zq P q s) = true := by kernel_rfl) : Go P fn R s w :=
  zq_sound q s (zk_eff h hz fun a o K Q ⟨x, h1, h2⟩ hK => hv a o x K Q h1 h2 hK)
theorem ycf (q : Zq) {src dst : TypeId} {u : Value} (sf : SF) (hv : ∀ (a : Act) (o : Oper) (x : Operand) K Q, o.op = .convert src dst x → a.eval x = u → (∀ v W, sf.rel w W → Go P fn R (znx (zq P q s) v) W → K (a.put o.dst v) W) → o.wp P a w K Q) (h : zk (zq P q s) = some (.cv src dst u) := by kernel_rfl) (hz : zsf (zq P q s) = some sf := by kernel_rfl) : Go P fn R s w :=
  zq_sound q s (zk_efft h hz fun a o K Q ⟨x, h1, h2⟩ hK => hv a o x K Q h1 h2 hK)
/-- operations on two values -/
theorem xbo (q : Zq) {b : BinOp} {t t2 : TypeId} {u1 u2 v : Value} (hv : ∀ (a : Act) (o : Oper) (x y : Operand), o.op = .binOp b t x y t2 → a.eval x = u1 → a.eval y = u2 → ∀ V, Below w.heap.size w V → (execOp a.eval o).run P V = .ok (.value v) V) (g : Go P fn R (znx (zq P q s) v) w) (h : zk (zq P q s) = some (.bn b t t2 u1 u2) := by kernel_rfl) (hz : zplain (zq P q s) = true := by kernel_rfl) : Go P fn R s w :=
  zq_sound q s (zk_val h hz (fun a o ⟨x, y, h1, h2, h3⟩ V hV => hv a o x y h1 h2 h3 V hV) g)
theorem zk_val0 {k : Zk} {v : Value} (h : zk s = some k) (hz : zeff s = true) (hv : ∀ a o, ZkOk a o k → (execOp a.eval o).run P w = .ok (.value v) w) (g : Go P fn R (znx s v) w) : Go P fn R s w := by
  obtain ⟨o, ho, h⟩ := zop_of h
  exact zgov ho (fun V hV => by
    rcases hV with rfl | ⟨hV, _⟩
    · exact hv _ o (zkf_ok h)
    · rw [hz] at hV; cases hV) g
theorem xcv0 (q : Zq) {src dst : TypeId} {u v : Value} (hv : ∀ (a : Act) (o : Oper) (x : Operand), o.op = .convert src dst x → a.eval x = u → (execOp a.eval o).run P w = .ok (.value v) w) (g : Go P fn R (znx (zq P q s) v) w) (h : zk (zq P q s) = some (.cv src dst u) := by kernel_rfl) (hz : zeff (zq P q s) = true := by kernel_rfl) : Go P fn R s w :=
  zq_sound q s (zk_val0 h hz (fun a o ⟨x, h1, h2⟩ => hv a o x h1 h2) g)
/-- addresses of elements -/
theorem xia (q : Zq) {t : TypeId} {u1 u2 v : Value} (hv : ∀ (a : Act) (o : Oper) (x y : Operand), o.op = .indexAddr t x y → a.eval x = u1 → a.eval y = u2 → ∀ V, (execOp a.eval o).run P V = .ok (.value v) V) (g : Go P fn R (znx (zq P q s) v) w) (h : zk (zq P q s) = some (.ix t u1 u2) := by kernel_rfl) : Go P fn R s w := by
  obtain ⟨o, ho, h⟩ := zop_of h
  obtain ⟨x, y, h1, h2, h3⟩ := zkf_ok h
  exact zq_sound q s (zgov ho (fun V _ => hv _ o x y h1 h2 h3 V) g)
theorem xx (q : Zq) (a : Option Addr) (n k size : Nat) (ha : a.isSome = true) (g : Go P fn R (znx (zq P q s) (.pointer (some (elemAddr a (k * size))))) w) (h : zix P (zq P q s) = some (a, n, (k : Int), size) := by kernel_rfl) (hk : k < n := by omega) : Go P fn R s w := by
  obtain ⟨o, ho, h⟩ := zop_of h
  refine zq_sound q s (zgov ho (fun V _ => ?_) g)
  split at h
  · rename_i t x y hop
    split at h
    · rename_i e hu
      split at h
      · rename_i i hi
        split at h
        · rename_i a' n' c' hx
          split at h
          · rename_i ki j hy
            simp only [Option.some.injEq, Prod.mk.injEq] at h
            obtain ⟨rfl, rfl, rfl, rfl⟩ := h
            exact run_indexA hop (by rw [zact_eval]; exact hx) (by rw [zact_eval]; exact hy) rfl hk ha hu (by rw [hi]; rfl) V
          · cases h
        · cases h
      · cases h
    · cases h
  · cases h
theorem elemAddr_mid (b off j : Nat) : elemAddr (some ⟨b, off, none⟩) j = ⟨b, off + j, none⟩ := by simp [elemAddr, Addr.add_mid]
theorem xxb (q : Zq) (b off n k size : Nat) (g : Go P fn R (znx (zq P q s) (.pointer (some ⟨b, off + k * size, none⟩))) w) (h : zix P (zq P q s) = some (some ⟨b, off, none⟩, n, (k : Int), size) := by kernel_rfl) (hk : k < n := by omega) : Go P fn R s w :=
  xx q (some ⟨b, off, none⟩) n k size rfl (by rw [elemAddr_mid]; exact g) h hk
/-- cuts of a slice -/
theorem xsL (q : Zq) {t : TypeId} {u u1 v : Value} (hv : ∀ (a : Act) (o : Oper) (x y : Operand), o.op = .slice t x (some y) none none → a.eval x = u → a.eval y = u1 → ∀ V, (execOp a.eval o).run P V = .ok (.value v) V) (g : Go P fn R (znx (zq P q s) v) w) (h : zk (zq P q s) = some (.sl t u (some u1) none none) := by kernel_rfl) : Go P fn R s w := by
  obtain ⟨o, ho, h⟩ := zop_of h
  obtain ⟨x, l, hh, m, h1, h2, h3, h4, h5⟩ := zkf_ok h
  obtain ⟨y, rfl, hy⟩ := oev_some h3
  obtain rfl := oev_none h4
  obtain rfl := oev_none h5
  exact zq_sound q s (zgov ho (fun V _ => hv _ o x y h1 h2 hy V) g)
theorem xsH (q : Zq) {t : TypeId} {u u1 v : Value} (hv : ∀ (a : Act) (o : Oper) (x y : Operand), o.op = .slice t x none (some y) none → a.eval x = u → a.eval y = u1 → ∀ V, (execOp a.eval o).run P V = .ok (.value v) V) (g : Go P fn R (znx (zq P q s) v) w) (h : zk (zq P q s) = some (.sl t u none (some u1) none) := by kernel_rfl) : Go P fn R s w := by
  obtain ⟨o, ho, h⟩ := zop_of h
  obtain ⟨x, l, hh, m, h1, h2, h3, h4, h5⟩ := zkf_ok h
  obtain ⟨y, rfl, hy⟩ := oev_some h4
  obtain rfl := oev_none h3
  obtain rfl := oev_none h5
  exact zq_sound q s (zgov ho (fun V _ => hv _ o x y h1 h2 hy V) g)
theorem xsB (q : Zq) {t : TypeId} {u u1 u2 v : Value} (hv : ∀ (a : Act) (o : Oper) (x y z : Operand), o.op = .slice t x (some y) (some z) none → a.eval x = u → a.eval y = u1 → a.eval z = u2 → ∀ V, (execOp a.eval o).run P V = .ok (.value v) V) (g : Go P fn R (znx (zq P q s) v) w) (h : zk (zq P q s) = some (.sl t u (some u1) (some u2) none) := by kernel_rfl) : Go P fn R s w := by
  obtain ⟨o, ho, h⟩ := zop_of h
  obtain ⟨x, l, hh, m, h1, h2, h3, h4, h5⟩ := zkf_ok h
  obtain ⟨y, rfl, hy⟩ := oev_some h3
  obtain ⟨z, rfl, hz⟩ := oev_some h4
  obtain rfl := oev_none h5
  exact zq_sound q s (zgov ho (fun V _ => hv _ o x y z h1 h2 hy hz V) g)
theorem xs3 (q : Zq) {t : TypeId} {u u1 u2 u3 v : Value} (hv : ∀ (a : Act) (o : Oper) (x y z m : Operand), o.op = .slice t x (some y) (some z) (some m) → a.eval x = u → a.eval y = u1 → a.eval z = u2 → a.eval m = u3 → ∀ V, (execOp a.eval o).run P V = .ok (.value v) V) (g : Go P fn R (znx (zq P q s) v) w) (h : zk (zq P q s) = some (.sl t u (some u1) (some u2) (some u3)) := by kernel_rfl) : Go P fn R s w := by
  obtain ⟨o, ho, h⟩ := zop_of h
  obtain ⟨x, l, hh, m, h1, h2, h3, h4, h5⟩ := zkf_ok h
  obtain ⟨y, rfl, hy⟩ := oev_some h3
  obtain ⟨z, rfl, hz⟩ := oev_some h4
  obtain ⟨m, rfl, hm⟩ := oev_some h5
  exact zq_sound q s (zgov ho (fun V _ => hv _ o x y z m h1 h2 hy hz hm V) g)
/-- 'append', 'copy' -/
theorem xbi (q : Zq) {b : Builtin} {t1 t2 : TypeId} {u1 u2 : Value} (hv : ∀ (a : Act) (o : Oper) (x y : Operand) K Q, o.op = .call { callee := .builtin b, args := #[x, y], argTypes := #[t1, t2] } → a.eval x = u1 → a.eval y = u2 → (∀ v W, Go P fn R (znx (zq P q s) v) W → K (a.put o.dst v) W) → o.wp P a w K Q) (h : zk (zq P q s) = some (.bi b [t1, t2] [u1, u2]) := by kernel_rfl) (hz : zisops (zq P q s) = true := by kernel_rfl) : Go P fn R s w :=
  zq_sound q s (zk_eff h hz fun a o K Q ⟨xs, h1, h2⟩ hK => by
    obtain ⟨x, r, rfl, hx, hr⟩ := List.map_eq_cons_iff.1 h2
    obtain ⟨y, r, rfl, hy, hr⟩ := List.map_eq_cons_iff.1 hr
    obtain rfl := List.map_eq_nil_iff.1 hr
    exact hv a o x y K Q h1 hx hy hK)
theorem ybi (q : Zq) {b : Builtin} {t1 t2 : TypeId} {u1 u2 : Value} (sf : SF) (hv : ∀ (a : Act) (o : Oper) (x y : Operand) K Q, o.op = .call { callee := .builtin b, args := #[x, y], argTypes := #[t1, t2] } → a.eval x = u1 → a.eval y = u2 → (∀ v W, sf.rel w W → Go P fn R (znx (zq P q s) v) W → K (a.put o.dst v) W) → o.wp P a w K Q) (h : zk (zq P q s) = some (.bi b [t1, t2] [u1, u2]) := by kernel_rfl) (hz : zsf (zq P q s) = some sf := by kernel_rfl) : Go P fn R s w :=
  zq_sound q s (zk_efft h hz fun a o K Q ⟨xs, h1, h2⟩ hK => by
    obtain ⟨x, r, rfl, hx, hr⟩ := List.map_eq_cons_iff.1 h2
    obtain ⟨y, r, rfl, hy, hr⟩ := List.map_eq_cons_iff.1 hr
    obtain rfl := List.map_eq_nil_iff.1 hr
    exact hv a o x y K Q h1 hx hy hK)
/-- 'make' -/
theorem xmk (q : Zq) {t : TypeId} {u1 u2 : Value} (hv : ∀ (a : Act) (o : Oper) (x y : Operand) K Q, o.op = .makeSlice t x y → a.eval x = u1 → a.eval y = u2 → (∀ v W, Go P fn R (znx (zq P q s) v) W → K (a.put o.dst v) W) → o.wp P a w K Q) (h : zk (zq P q s) = some (.mk t u1 u2) := by kernel_rfl) (hz : zisops (zq P q s) = true := by kernel_rfl) : Go P fn R s w :=
  zq_sound q s (zk_eff h hz fun a o K Q ⟨x, y, h1, h2, h3⟩ hK => hv a o x y K Q h1 h2 h3 hK)
theorem ymk (q : Zq) {t : TypeId} {u1 u2 : Value} (sf : SF) (hv : ∀ (a : Act) (o : Oper) (x y : Operand) K Q, o.op = .makeSlice t x y → a.eval x = u1 → a.eval y = u2 → (∀ v W, sf.rel w W → Go P fn R (znx (zq P q s) v) W → K (a.put o.dst v) W) → o.wp P a w K Q) (h : zk (zq P q s) = some (.mk t u1 u2) := by kernel_rfl) (hz : zsf (zq P q s) = some sf := by kernel_rfl) : Go P fn R s w :=
  zq_sound q s (zk_efft h hz fun a o K Q ⟨x, y, h1, h2, h3⟩ hK => hv a o x y K Q h1 h2 h3 hK)
/-- a store that another law tells -/
theorem xst (q : Zq) {t : TypeId} {u1 u2 : Value} (hv : ∀ (a : Act) (o : Oper) (x y : Operand) K Q, o.op = .store t x y → a.eval x = u1 → a.eval y = u2 → (∀ v W, Go P fn R (znx (zq P q s) v) W → K (a.put o.dst v) W) → o.wp P a w K Q) (h : zk (zq P q s) = some (.st t u1 u2) := by kernel_rfl) (hz : zisops (zq P q s) = true := by kernel_rfl) : Go P fn R s w :=
  zq_sound q s (zk_eff h hz fun a o K Q ⟨x, y, h1, h2, h3⟩ hK => hv a o x y K Q h1 h2 h3 hK)
theorem yst (q : Zq) {t : TypeId} {u1 u2 : Value} (sf : SF) (hv : ∀ (a : Act) (o : Oper) (x y : Operand) K Q, o.op = .store t x y → a.eval x = u1 → a.eval y = u2 → (∀ v W, sf.rel w W → Go P fn R (znx (zq P q s) v) W → K (a.put o.dst v) W) → o.wp P a w K Q) (h : zk (zq P q s) = some (.st t u1 u2) := by kernel_rfl) (hz : zsf (zq P q s) = some sf := by kernel_rfl) : Go P fn R s w :=
  zq_sound q s (zk_efft h hz fun a o K Q ⟨x, y, h1, h2, h3⟩ hK => hv a o x y K Q h1 h2 h3 hK)
end
end Go.Proofs.YtolblnjohaooaaaGreatDoor
namespace Go.Proofs.YtolblnjohaooaaaGreatDoor
open Go.RowKit Go.Extern.Stop Go.Stop Go.Extern
set_option linter.unusedVariables false
attribute [local irreducible] wpList wpAnyH Code.wp Oper.wp Go

def bv (x : UInt8) : Value := .int .u8 (x.toNat : Int)
def Bys (w : World) (v : Value) (l : List UInt8) : Prop := Sl w v l.length (l.map bv)
theorem Bys.below {w w' : World} {v : Value} {l : List UInt8} (h : Bys w v l) (hb : Below w.heap.size w w') : Bys w' v l := Sl.below h hb
/-- a row of bytes of the call's own -/
def OwnB (base : Nat) (w : World) (v : Value) (l : List UInt8) : Prop := w.ownsRow base 5 1 v l.length (l.map bv)
theorem OwnB.bys {base : Nat} {w : World} {v : Value} {l : List UInt8} (h : OwnB base w v l) : Bys w v l := own_sl h
theorem bv_one (l : List UInt8) : ∀ u ∈ l.map bv, u.oneCell' = true := by
  intro u hu
  obtain ⟨x, _, rfl⟩ := List.mem_map.1 hu
  rfl
set_option maxRecDepth 100000 in
set_option maxHeartbeats 1000000 in
theorem clone_some (p : Addr) (c : Nat) (l : List UInt8) (w : World) (h : Bys w (.slice (some p) l.length c) l) (hl : l.length ≤ 100000000) :
    Calls Tryz.prog 24 #[.slice (some p) l.length c] w (RetS (fun w' r => OwnB w.heap.size w' r l) w) := by
 refine zin 8 Tryz.func24 ?_
 refine xb0 17 5 fun b1 W1 n1 => ?_
 have o1 := own_of_blk (size := 1) (n := 0) n1.blk (n1.ge (Below.refl w.heap.size _)) rfl (by decide)
 refine xbi 1 fun _ _ _ _ zJ zQ zo zx zy zK => op_app (m := l.length) (news := l.map bv) (.int .u8 0) 1 1 (l.length) (l.map bv) zo Tryz.underlying22 (by kernel_rfl) rfl (by decide) zx o1 zy (h.below n1.below) (by simp) (bv_one l) (by unfold maxLen; omega) (by omega) n1.below.size (by simp) (by simp) fun p2 c2 W2 o2 hg2 hb2 => ?_
 refine zK _ _ ?_
 have hB'1 := n1.below.trans hb2
 exact xe 4 (.slice p2 l.length c2) ⟨_, rfl, hB'1, o2⟩
set_option maxRecDepth 100000 in
set_option maxHeartbeats 1000000 in
theorem clone_nil (c : Nat) (w : World) :
    Calls Tryz.prog 24 #[.slice none 0 c] w (RetS (fun w' r => OwnB w.heap.size w' r []) w) := by
 refine zin 8 Tryz.func24 ?_
 exact xe 20 (.slice none 0 0) ⟨_, rfl, (Below.refl w.heap.size _), World.ownsRow_nil _ _ _ _⟩
theorem clone_bytes (a : Option Addr) (c : Nat) (l : List UInt8) (w : World) (h : Bys w (.slice a l.length c) l) (hl : l.length ≤ 100000000) :
    Calls Tryz.prog 24 #[.slice a l.length c] w (RetS (fun w' r => OwnB w.heap.size w' r l) w) := by
  cases a with
  | some p => exact clone_some p c l w h hl
  | none =>
    rcases Sl.at h with hn | ⟨_, _, h1, _⟩
    · obtain rfl : l = [] := by simpa using hn
      exact clone_nil c w
    · cases h1
theorem clone_bytesN (a : Option Addr) (n c : Nat) (l : List UInt8) (w : World) (hn : l.length = n) (h : Bys w (.slice a n c) l) (hl : n ≤ 100000000) :
    Calls Tryz.prog 24 #[.slice a n c] w (RetS (fun w' r => OwnB w.heap.size w' r l) w) := by
  subst hn; exact clone_bytes a c l w h hl
theorem Blk.bys {w : World} {b : Nat} {cs : List Value} {t : TypeId} (k : Blk w b cs t) (l : List UInt8) (n c : Nat) (hn : l.length = n) (h : cs.take n = l.map bv) (hc : n ≤ c) (hm : c ≤ maxLen) : Bys w (.slice (some ⟨b, 0, none⟩) n c) l :=
  .inr ⟨b, 0, c, by rw [hn], by omega, hm, fun j x hj => by
    rw [Nat.zero_add]
    refine k.cell ?_
    rw [← h] at hj
    have hjn : j < n := by have := (List.getElem?_eq_some_iff.1 hj).1; simp at this; omega
    rwa [List.getElem?_take_of_lt hjn] at hj⟩
/-- byte i of a number -/
def byteAt (n : Int) (i : Nat) : UInt8 := UInt8.ofNat (n.toNat / 256 ^ i)
def leB (n : Int) (w : Nat) : List UInt8 := (List.range w).map (byteAt n)
theorem leB_len (n : Int) (w : Nat) : (leB n w).length = w := by simp [leB]
theorem byte_shr {n : Int} (h : 0 ≤ n) (i : Nat) : IntKind.u8.wrap (Int.fdiv n (2 ^ (8 * i))) = ((byteAt n i).toNat : Int) := by
  obtain ⟨m, rfl⟩ := Int.eq_ofNat_of_zero_le h
  have e : (2 : Int) ^ (8 * i) = ((256 ^ i : Nat) : Int) := by rw [Int.pow_mul]; simp
  rw [e, show Int.fdiv ((m : Nat) : Int) ((256 ^ i : Nat) : Int) = ((m / 256 ^ i : Nat) : Int) from by rw [Int.fdiv_eq_ediv_of_nonneg _ (Int.natCast_nonneg _)]; simp]
  simp [IntKind.wrap, byteAt, IntKind.bits, IntKind.signed]
theorem byte_0 {n : Int} (h : 0 ≤ n) : IntKind.u8.wrap n = ((byteAt n 0).toNat : Int) := by
  have := byte_shr h 0
  simpa using this
/-- bytes put into bytes -/
def putB (l : List UInt8) (k : Nat) (x : List UInt8) : List UInt8 := l.take k ++ x ++ l.drop (k + x.length)
theorem OwnB.some {base : Nat} {w : World} {v : Value} {l : List UInt8} (h : OwnB base w v l) (hl : 0 < l.length) : ∃ g cap, v = .slice (some ⟨g, 0, none⟩) l.length cap ∧ l.length ≤ cap := by
  rcases h.2 with ⟨_, h0⟩ | ⟨g, cap, cur, hv, _, _, hc, _⟩
  · omega
  · exact ⟨g, cap, hv, hc⟩
set_option maxRecDepth 100000 in
set_option maxHeartbeats 1000000 in
theorem known_1 (w : World) :
    Calls Tryz.prog 54 #[.int .i64 1] w (Ret (.bool true) w) := by
 refine zin 17 Tryz.func54 ?_
 exact xe 25 (.bool true) ⟨rfl, (Below.refl w.heap.size _)⟩
set_option maxRecDepth 100000 in
set_option maxHeartbeats 1000000 in
theorem fits_1 (n : Int) (h0 : 0 ≤ n) (hb : n < 256) (w : World) :
    Calls Tryz.prog 55 #[.int .i64 n, .int .i64 1] w (Ret (.bool true) w) := by
 refine zin 20 Tryz.func55 ?_
 refine xk 12 (show (decide (n < (0 : Int)) : Bool) = false from decide_eq_false (by omega)) ?_
 exact xe 26 (.bool (decide (n < (256 : Int)))) ⟨by rw [decide_eq_true hb], (Below.refl w.heap.size _)⟩
set_option maxRecDepth 100000 in
set_option maxHeartbeats 1000000 in
theorem there_1 (a : Option Addr) (m c k : Nat) (hk : k + 1 ≤ m) (hm : m ≤ 100000000) (w : World) :
    Calls Tryz.prog 77 #[.slice a m c, .int .i64 (↑k : Int), .int .i64 1] w (Ret (.int .i64 0) w) := by
 refine zin 28 Tryz.func77 ?_
 refine xr 10 (args := #[.int .i64 1]) (known_1 _) fun W1 hb1 => ?_
 refine xgk 10 [13, 14] (show (decide ((↑k : Int) < (0 : Int)) : Bool) = false from decide_eq_false (by omega)) ?_
 refine xgk 6 [18, 19, 20] (show (decide ((↑k : Int) > (↑m : Int)) : Bool) = false from decide_eq_false (by omega)) ?_
 refine xw 3 ((↑m : Int) - (↑k : Int)) ?_
 refine xk 6 (show (decide ((↑m : Int) - (↑k : Int) < (1 : Int)) : Bool) = false from decide_eq_false (by omega)) ?_
 exact xe 9 (.int .i64 0) ⟨rfl, hb1⟩
set_option maxRecDepth 100000 in
set_option maxHeartbeats 1000000 in
theorem bytes_1 (n : Int) (h0 : 0 ≤ n) (w : World) :
    Calls Tryz.prog 56 #[.int .i64 n, .int .i64 1] w (RetS (fun w' r => OwnB w.heap.size w' r (leB n 1)) w) := by
 refine zin 43 Tryz.func56 ?_
 refine xa 7 [.int .u8 0, .int .u8 0, .int .u8 0, .int .u8 0, .int .u8 0, .int .u8 0, .int .u8 0, .int .u8 0] 160 fun b1 W1 n1 => ?_
 refine xq 59 (congrArg (Value.int .u8) (show (IntKind.u8.wrap n : Int) = (↑(byteAt n 0).toNat : Int) from byte_0 h0)) ?_
 refine xs 1 n1.blk [.int .u8 (↑(byteAt n 0).toNat : Int), .int .u8 0, .int .u8 0, .int .u8 0, .int .u8 0, .int .u8 0, .int .u8 0, .int .u8 0] fun W2 u2 k2 => ?_
 have g1 := n1.ge (Below.refl w.heap.size _)
 refine xc 9 (args := #[.slice (some ⟨b1, 0, none⟩) 1 8]) (clone_bytesN (some ⟨b1, 0, none⟩) 1 8 (leB n 1) _ rfl (k2.bys (leB n 1) 1 8 rfl rfl (by decide) (by decide)) (by decide)) ?_
 rintro _ W3 ⟨r, rfl, hb3, ho⟩
 have hs3 := (u2.below n1.below g1).size
 have hB := Bl.next (u2.below n1.below g1) hb3
 have ho'1 := own_mono ho hs3
 exact xe 4 r ⟨_, rfl, hB, ho'1⟩
set_option maxRecDepth 100000 in
set_option maxHeartbeats 1000000 in
theorem known_2 (w : World) :
    Calls Tryz.prog 54 #[.int .i64 2] w (Ret (.bool true) w) := by
 refine zin 17 Tryz.func54 ?_
 exact xe 25 (.bool true) ⟨rfl, (Below.refl w.heap.size _)⟩
set_option maxRecDepth 100000 in
set_option maxHeartbeats 1000000 in
theorem fits_2 (n : Int) (h0 : 0 ≤ n) (hb : n < 65536) (w : World) :
    Calls Tryz.prog 55 #[.int .i64 n, .int .i64 2] w (Ret (.bool true) w) := by
 refine zin 20 Tryz.func55 ?_
 refine xk 12 (show (decide (n < (0 : Int)) : Bool) = false from decide_eq_false (by omega)) ?_
 exact xe 33 (.bool (decide (n < (65536 : Int)))) ⟨by rw [decide_eq_true hb], (Below.refl w.heap.size _)⟩
set_option maxRecDepth 100000 in
set_option maxHeartbeats 1000000 in
theorem there_2 (a : Option Addr) (m c k : Nat) (hk : k + 2 ≤ m) (hm : m ≤ 100000000) (w : World) :
    Calls Tryz.prog 77 #[.slice a m c, .int .i64 (↑k : Int), .int .i64 2] w (Ret (.int .i64 0) w) := by
 refine zin 28 Tryz.func77 ?_
 refine xr 10 (args := #[.int .i64 2]) (known_2 _) fun W1 hb1 => ?_
 refine xgk 10 [13, 14] (show (decide ((↑k : Int) < (0 : Int)) : Bool) = false from decide_eq_false (by omega)) ?_
 refine xgk 6 [18, 19, 20] (show (decide ((↑k : Int) > (↑m : Int)) : Bool) = false from decide_eq_false (by omega)) ?_
 refine xw 3 ((↑m : Int) - (↑k : Int)) ?_
 refine xk 6 (show (decide ((↑m : Int) - (↑k : Int) < (2 : Int)) : Bool) = false from decide_eq_false (by omega)) ?_
 exact xe 9 (.int .i64 0) ⟨rfl, hb1⟩
set_option maxRecDepth 100000 in
set_option maxHeartbeats 1000000 in
theorem bytes_2 (n : Int) (h0 : 0 ≤ n) (w : World) :
    Calls Tryz.prog 56 #[.int .i64 n, .int .i64 2] w (RetS (fun w' r => OwnB w.heap.size w' r (leB n 2)) w) := by
 refine zin 43 Tryz.func56 ?_
 refine xa 7 [.int .u8 0, .int .u8 0, .int .u8 0, .int .u8 0, .int .u8 0, .int .u8 0, .int .u8 0, .int .u8 0] 160 fun b1 W1 n1 => ?_
 refine xq 56 (congrArg (Value.int .u8) (show (IntKind.u8.wrap (Int.fdiv n (2 ^ 8)) : Int) = (↑(byteAt n 1).toNat : Int) from byte_shr h0 1)) ?_
 refine xs 1 n1.blk [.int .u8 0, .int .u8 (↑(byteAt n 1).toNat : Int), .int .u8 0, .int .u8 0, .int .u8 0, .int .u8 0, .int .u8 0, .int .u8 0] fun W2 u2 k2 => ?_
 have g1 := n1.ge (Below.refl w.heap.size _)
 refine xq 6 (congrArg (Value.int .u8) (show (IntKind.u8.wrap n : Int) = (↑(byteAt n 0).toNat : Int) from byte_0 h0)) ?_
 refine xs 1 k2 [.int .u8 (↑(byteAt n 0).toNat : Int), .int .u8 (↑(byteAt n 1).toNat : Int), .int .u8 0, .int .u8 0, .int .u8 0, .int .u8 0, .int .u8 0, .int .u8 0] fun W3 u3 k3 => ?_
 refine xc 9 (args := #[.slice (some ⟨b1, 0, none⟩) 2 8]) (clone_bytesN (some ⟨b1, 0, none⟩) 2 8 (leB n 2) _ rfl (k3.bys (leB n 2) 2 8 rfl rfl (by decide) (by decide)) (by decide)) ?_
 rintro _ W4 ⟨r, rfl, hb4, ho⟩
 have hs4 := (u3.below (u2.below n1.below g1) g1).size
 have hB := Bl.next (u3.below (u2.below n1.below g1) g1) hb4
 have ho'1 := own_mono ho hs4
 exact xe 4 r ⟨_, rfl, hB, ho'1⟩
set_option maxRecDepth 100000 in
set_option maxHeartbeats 1000000 in
theorem known_4 (w : World) :
    Calls Tryz.prog 54 #[.int .i64 4] w (Ret (.bool true) w) := by
 refine zin 17 Tryz.func54 ?_
 exact xe 25 (.bool true) ⟨rfl, (Below.refl w.heap.size _)⟩
set_option maxRecDepth 100000 in
set_option maxHeartbeats 1000000 in
theorem fits_4 (n : Int) (h0 : 0 ≤ n) (hb : n < 4294967296) (w : World) :
    Calls Tryz.prog 55 #[.int .i64 n, .int .i64 4] w (Ret (.bool true) w) := by
 refine zin 20 Tryz.func55 ?_
 refine xk 12 (show (decide (n < (0 : Int)) : Bool) = false from decide_eq_false (by omega)) ?_
 exact xe 40 (.bool (decide (n < (4294967296 : Int)))) ⟨by rw [decide_eq_true hb], (Below.refl w.heap.size _)⟩
set_option maxRecDepth 100000 in
set_option maxHeartbeats 1000000 in
theorem there_4 (a : Option Addr) (m c k : Nat) (hk : k + 4 ≤ m) (hm : m ≤ 100000000) (w : World) :
    Calls Tryz.prog 77 #[.slice a m c, .int .i64 (↑k : Int), .int .i64 4] w (Ret (.int .i64 0) w) := by
 refine zin 28 Tryz.func77 ?_
 refine xr 10 (args := #[.int .i64 4]) (known_4 _) fun W1 hb1 => ?_
 refine xgk 10 [13, 14] (show (decide ((↑k : Int) < (0 : Int)) : Bool) = false from decide_eq_false (by omega)) ?_
 refine xgk 6 [18, 19, 20] (show (decide ((↑k : Int) > (↑m : Int)) : Bool) = false from decide_eq_false (by omega)) ?_
 refine xw 3 ((↑m : Int) - (↑k : Int)) ?_
 refine xk 6 (show (decide ((↑m : Int) - (↑k : Int) < (4 : Int)) : Bool) = false from decide_eq_false (by omega)) ?_
 exact xe 9 (.int .i64 0) ⟨rfl, hb1⟩
set_option maxRecDepth 100000 in
set_option maxHeartbeats 1000000 in
theorem bytes_4 (n : Int) (h0 : 0 ≤ n) (w : World) :
    Calls Tryz.prog 56 #[.int .i64 n, .int .i64 4] w (RetS (fun w' r => OwnB w.heap.size w' r (leB n 4)) w) := by
 refine zin 43 Tryz.func56 ?_
 refine xa 7 [.int .u8 0, .int .u8 0, .int .u8 0, .int .u8 0, .int .u8 0, .int .u8 0, .int .u8 0, .int .u8 0] 160 fun b1 W1 n1 => ?_
 refine xq 46 (congrArg (Value.int .u8) (show (IntKind.u8.wrap (Int.fdiv n (2 ^ 24)) : Int) = (↑(byteAt n 3).toNat : Int) from byte_shr h0 3)) ?_
 refine xq 2 (congrArg (Value.int .u8) (show (IntKind.u8.wrap (Int.fdiv n (2 ^ 16)) : Int) = (↑(byteAt n 2).toNat : Int) from byte_shr h0 2)) ?_
 refine xs 1 n1.blk [.int .u8 0, .int .u8 0, .int .u8 0, .int .u8 (↑(byteAt n 3).toNat : Int), .int .u8 0, .int .u8 0, .int .u8 0, .int .u8 0] fun W2 u2 k2 => ?_
 have g1 := n1.ge (Below.refl w.heap.size _)
 refine xs 1 k2 [.int .u8 0, .int .u8 0, .int .u8 (↑(byteAt n 2).toNat : Int), .int .u8 (↑(byteAt n 3).toNat : Int), .int .u8 0, .int .u8 0, .int .u8 0, .int .u8 0] fun W3 u3 k3 => ?_
 refine xq 6 (congrArg (Value.int .u8) (show (IntKind.u8.wrap (Int.fdiv n (2 ^ 8)) : Int) = (↑(byteAt n 1).toNat : Int) from byte_shr h0 1)) ?_
 refine xs 1 k3 [.int .u8 0, .int .u8 (↑(byteAt n 1).toNat : Int), .int .u8 (↑(byteAt n 2).toNat : Int), .int .u8 (↑(byteAt n 3).toNat : Int), .int .u8 0, .int .u8 0, .int .u8 0, .int .u8 0] fun W4 u4 k4 => ?_
 refine xq 6 (congrArg (Value.int .u8) (show (IntKind.u8.wrap n : Int) = (↑(byteAt n 0).toNat : Int) from byte_0 h0)) ?_
 refine xs 1 k4 [.int .u8 (↑(byteAt n 0).toNat : Int), .int .u8 (↑(byteAt n 1).toNat : Int), .int .u8 (↑(byteAt n 2).toNat : Int), .int .u8 (↑(byteAt n 3).toNat : Int), .int .u8 0, .int .u8 0, .int .u8 0, .int .u8 0] fun W5 u5 k5 => ?_
 refine xc 9 (args := #[.slice (some ⟨b1, 0, none⟩) 4 8]) (clone_bytesN (some ⟨b1, 0, none⟩) 4 8 (leB n 4) _ rfl (k5.bys (leB n 4) 4 8 rfl rfl (by decide) (by decide)) (by decide)) ?_
 rintro _ W6 ⟨r, rfl, hb6, ho⟩
 have hs6 := (u5.below (u4.below (u3.below (u2.below n1.below g1) g1) g1) g1).size
 have hB := Bl.next (u5.below (u4.below (u3.below (u2.below n1.below g1) g1) g1) g1) hb6
 have ho'1 := own_mono ho hs6
 exact xe 4 r ⟨_, rfl, hB, ho'1⟩
set_option maxRecDepth 100000 in
set_option maxHeartbeats 1000000 in
theorem known_8 (w : World) :
    Calls Tryz.prog 54 #[.int .i64 8] w (Ret (.bool true) w) := by
 refine zin 17 Tryz.func54 ?_
 exact xe 25 (.bool true) ⟨rfl, (Below.refl w.heap.size _)⟩
set_option maxRecDepth 100000 in
set_option maxHeartbeats 1000000 in
theorem fits_8 (n : Int) (h0 : 0 ≤ n) (w : World) :
    Calls Tryz.prog 55 #[.int .i64 n, .int .i64 8] w (Ret (.bool true) w) := by
 refine zin 20 Tryz.func55 ?_
 refine xk 12 (show (decide (n < (0 : Int)) : Bool) = false from decide_eq_false (by omega)) ?_
 exact xe 39 (.bool true) ⟨by rfl, (Below.refl w.heap.size _)⟩
set_option maxRecDepth 100000 in
set_option maxHeartbeats 1000000 in
theorem there_8 (a : Option Addr) (m c k : Nat) (hk : k + 8 ≤ m) (hm : m ≤ 100000000) (w : World) :
    Calls Tryz.prog 77 #[.slice a m c, .int .i64 (↑k : Int), .int .i64 8] w (Ret (.int .i64 0) w) := by
 refine zin 28 Tryz.func77 ?_
 refine xr 10 (args := #[.int .i64 8]) (known_8 _) fun W1 hb1 => ?_
 refine xgk 10 [13, 14] (show (decide ((↑k : Int) < (0 : Int)) : Bool) = false from decide_eq_false (by omega)) ?_
 refine xgk 6 [18, 19, 20] (show (decide ((↑k : Int) > (↑m : Int)) : Bool) = false from decide_eq_false (by omega)) ?_
 refine xw 3 ((↑m : Int) - (↑k : Int)) ?_
 refine xk 6 (show (decide ((↑m : Int) - (↑k : Int) < (8 : Int)) : Bool) = false from decide_eq_false (by omega)) ?_
 exact xe 9 (.int .i64 0) ⟨rfl, hb1⟩
set_option maxRecDepth 100000 in
set_option maxHeartbeats 1000000 in
theorem bytes_8 (n : Int) (h0 : 0 ≤ n) (w : World) :
    Calls Tryz.prog 56 #[.int .i64 n, .int .i64 8] w (RetS (fun w' r => OwnB w.heap.size w' r (leB n 8)) w) := by
 refine zin 43 Tryz.func56 ?_
 refine xa 7 [.int .u8 0, .int .u8 0, .int .u8 0, .int .u8 0, .int .u8 0, .int .u8 0, .int .u8 0, .int .u8 0] 160 fun b1 W1 n1 => ?_
 refine xu 37 6 ?_
 refine xq 18 (congrArg (Value.int .u8) (show (IntKind.u8.wrap (Int.fdiv n (2 ^ 32)) : Int) = (↑(byteAt n 4).toNat : Int) from byte_shr h0 4)) ?_
 refine xs 1 n1.blk [.int .u8 0, .int .u8 0, .int .u8 0, .int .u8 0, .int .u8 (↑(byteAt n 4).toNat : Int), .int .u8 0, .int .u8 0, .int .u8 0] fun W2 u2 k2 => ?_
 have g1 := n1.ge (Below.refl w.heap.size _)
 refine xq 27 (congrArg (Value.int .u8) (show (IntKind.u8.wrap (Int.fdiv n (2 ^ 40)) : Int) = (↑(byteAt n 5).toNat : Int) from byte_shr h0 5)) ?_
 refine xs 1 k2 [.int .u8 0, .int .u8 0, .int .u8 0, .int .u8 0, .int .u8 (↑(byteAt n 4).toNat : Int), .int .u8 (↑(byteAt n 5).toNat : Int), .int .u8 0, .int .u8 0] fun W3 u3 k3 => ?_
 refine xq 27 (congrArg (Value.int .u8) (show (IntKind.u8.wrap (Int.fdiv n (2 ^ 48)) : Int) = (↑(byteAt n 6).toNat : Int) from byte_shr h0 6)) ?_
 refine xs 1 k3 [.int .u8 0, .int .u8 0, .int .u8 0, .int .u8 0, .int .u8 (↑(byteAt n 4).toNat : Int), .int .u8 (↑(byteAt n 5).toNat : Int), .int .u8 (↑(byteAt n 6).toNat : Int), .int .u8 0] fun W4 u4 k4 => ?_
 refine xq 27 (congrArg (Value.int .u8) (show (IntKind.u8.wrap (Int.fdiv n (2 ^ 56)) : Int) = (↑(byteAt n 7).toNat : Int) from byte_shr h0 7)) ?_
 refine xs 1 k4 [.int .u8 0, .int .u8 0, .int .u8 0, .int .u8 0, .int .u8 (↑(byteAt n 4).toNat : Int), .int .u8 (↑(byteAt n 5).toNat : Int), .int .u8 (↑(byteAt n 6).toNat : Int), .int .u8 (↑(byteAt n 7).toNat : Int)] fun W5 u5 k5 => ?_
 refine xq 26 (congrArg (Value.int .u8) (show (IntKind.u8.wrap (Int.fdiv n (2 ^ 24)) : Int) = (↑(byteAt n 3).toNat : Int) from byte_shr h0 3)) ?_
 refine xq 2 (congrArg (Value.int .u8) (show (IntKind.u8.wrap (Int.fdiv n (2 ^ 16)) : Int) = (↑(byteAt n 2).toNat : Int) from byte_shr h0 2)) ?_
 refine xs 1 k5 [.int .u8 0, .int .u8 0, .int .u8 0, .int .u8 (↑(byteAt n 3).toNat : Int), .int .u8 (↑(byteAt n 4).toNat : Int), .int .u8 (↑(byteAt n 5).toNat : Int), .int .u8 (↑(byteAt n 6).toNat : Int), .int .u8 (↑(byteAt n 7).toNat : Int)] fun W6 u6 k6 => ?_
 refine xs 1 k6 [.int .u8 0, .int .u8 0, .int .u8 (↑(byteAt n 2).toNat : Int), .int .u8 (↑(byteAt n 3).toNat : Int), .int .u8 (↑(byteAt n 4).toNat : Int), .int .u8 (↑(byteAt n 5).toNat : Int), .int .u8 (↑(byteAt n 6).toNat : Int), .int .u8 (↑(byteAt n 7).toNat : Int)] fun W7 u7 k7 => ?_
 refine xq 6 (congrArg (Value.int .u8) (show (IntKind.u8.wrap (Int.fdiv n (2 ^ 8)) : Int) = (↑(byteAt n 1).toNat : Int) from byte_shr h0 1)) ?_
 refine xs 1 k7 [.int .u8 0, .int .u8 (↑(byteAt n 1).toNat : Int), .int .u8 (↑(byteAt n 2).toNat : Int), .int .u8 (↑(byteAt n 3).toNat : Int), .int .u8 (↑(byteAt n 4).toNat : Int), .int .u8 (↑(byteAt n 5).toNat : Int), .int .u8 (↑(byteAt n 6).toNat : Int), .int .u8 (↑(byteAt n 7).toNat : Int)] fun W8 u8 k8 => ?_
 refine xq 6 (congrArg (Value.int .u8) (show (IntKind.u8.wrap n : Int) = (↑(byteAt n 0).toNat : Int) from byte_0 h0)) ?_
 refine xs 1 k8 [.int .u8 (↑(byteAt n 0).toNat : Int), .int .u8 (↑(byteAt n 1).toNat : Int), .int .u8 (↑(byteAt n 2).toNat : Int), .int .u8 (↑(byteAt n 3).toNat : Int), .int .u8 (↑(byteAt n 4).toNat : Int), .int .u8 (↑(byteAt n 5).toNat : Int), .int .u8 (↑(byteAt n 6).toNat : Int), .int .u8 (↑(byteAt n 7).toNat : Int)] fun W9 u9 k9 => ?_
 refine xc 9 (args := #[.slice (some ⟨b1, 0, none⟩) 8 8]) (clone_bytesN (some ⟨b1, 0, none⟩) 8 8 (leB n 8) _ rfl (k9.bys (leB n 8) 8 8 rfl rfl (by decide) (by decide)) (by decide)) ?_
 rintro _ W10 ⟨r, rfl, hb10, ho⟩
 have hs10 := (u9.below (u8.below (u7.below (u6.below (u5.below (u4.below (u3.below (u2.below n1.below g1) g1) g1) g1) g1) g1) g1) g1).size
 have hB := Bl.next (u9.below (u8.below (u7.below (u6.below (u5.below (u4.below (u3.below (u2.below n1.below g1) g1) g1) g1) g1) g1) g1) g1) hb10
 have ho'1 := own_mono ho hs10
 exact xe 4 r ⟨_, rfl, hB, ho'1⟩
end Go.Proofs.YtolblnjohaooaaaGreatDoor
namespace Go.Proofs.YtolblnjohaooaaaGreatDoor
open Go.RowKit Go.Extern.Stop Go.Stop Go.Extern
set_option linter.unusedVariables false
attribute [local irreducible] wpList wpAnyH Code.wp Oper.wp Go

theorem u32_wrap {n : Nat} (h : n < 4294967296) : IntKind.u32.wrap (n : Int) = (n : Int) := by
  simp [IntKind.wrap, IntKind.bits, IntKind.signed]; omega
theorem u32_xor {a b : Nat} (ha : a < 4294967296) (hb : b < 4294967296) : IntKind.u32.wrap (↑(BitVec.ofInt 32 (a : Int) ^^^ BitVec.ofInt 32 (b : Int)).toNat : Int) = ((a ^^^ b : Nat) : Int) := by
  rw [BitVec.ofInt_natCast, BitVec.ofInt_natCast, BitVec.toNat_xor, BitVec.toNat_ofNat, BitVec.toNat_ofNat, Nat.mod_eq_of_lt ha, Nat.mod_eq_of_lt hb]
  exact u32_wrap (Nat.xor_lt_two_pow (n := 32) ha hb)
theorem u32_and {a b : Nat} (ha : a < 4294967296) (hb : b < 4294967296) : IntKind.u32.wrap (↑(BitVec.ofInt 32 (a : Int) &&& BitVec.ofInt 32 (b : Int)).toNat : Int) = ((a &&& b : Nat) : Int) := by
  rw [BitVec.ofInt_natCast, BitVec.ofInt_natCast, BitVec.toNat_and, BitVec.toNat_ofNat, BitVec.toNat_ofNat, Nat.mod_eq_of_lt ha, Nat.mod_eq_of_lt hb]
  exact u32_wrap (Nat.lt_of_le_of_lt Nat.and_le_left ha)
theorem fdiv_cast (a : Nat) (k : Nat) : Int.fdiv (a : Int) (2 ^ k) = ((a / 2 ^ k : Nat) : Int) := by
  rw [Int.fdiv_eq_ediv_of_nonneg _ (Int.pow_nonneg (by decide))]
  simp
/-- one step of a register -/
def step1 (r : Nat) : Nat := if r % 2 = 1 then (r / 2) ^^^ 2197175160 else r / 2
def stepN : Nat → Nat → Nat
  | 0, r => r
  | j + 1, r => step1 (stepN j r)
def half (n : Nat) : Nat := stepN 4 n
theorem step1_lt {r : Nat} (h : r < 4294967296) : step1 r < 4294967296 := by
  unfold step1
  split
  · exact Nat.xor_lt_two_pow (n := 32) (by omega) (by decide)
  · omega
theorem stepN_lt {j r : Nat} (h : r < 4294967296) : stepN j r < 4294967296 := by
  induction j with
  | zero => exact h
  | succ j ih => exact step1_lt ih
theorem half_lt {r : Nat} (h : r < 4294967296) : half r < 4294967296 := stepN_lt h
def halvesK (k : Nat) : List Value := (List.range 16).map fun i => .int .u32 (if i < k then (half i : Int) else 0)
def halvesC : List Value := (List.range 16).map fun i => .int .u32 (half i : Int)
theorem halvesK_set {k : Nat} (h : k < 16) : (halvesK k).set k (.int .u32 (half k : Int)) = halvesK (k + 1) := by
  apply List.ext_getElem?
  intro i
  by_cases hi : i < 16
  · by_cases e : k = i
    · subst e
      rw [List.getElem?_set_self (by simpa [halvesK] using h)]
      simp [halvesK, List.getElem?_range hi]
    · rw [List.getElem?_set_ne e]
      simp only [halvesK, List.getElem?_map, List.getElem?_range hi, Option.map_some]
      by_cases h3 : i < k
      · rw [if_pos h3, if_pos (by omega)]
      · rw [if_neg h3, if_neg (by omega)]
  · rw [List.getElem?_eq_none (by simp [halvesK]; omega), List.getElem?_eq_none (by simp [halvesK]; omega)]
theorem halvesK_all : halvesK 16 = halvesC := by
  unfold halvesK halvesC
  apply List.map_congr_left
  intro i hi
  rw [if_pos (List.mem_range.1 hi)]
theorem halvesC_get {k : Nat} (h : k < 16) : halvesC[k]? = some (.int .u32 (half k : Int)) := by
  simp [halvesC, List.getElem?_range h]
/-- the lowest bit -/
theorem and_one (a : Nat) : a &&& 1 = a % 2 := Nat.and_one_is_mod a
theorem and_15 (a : Nat) : a &&& 15 = a % 16 := Nat.and_two_pow_sub_one_eq_mod a 4
set_option maxRecDepth 100000 in
set_option maxHeartbeats 1000000 in
theorem crc_halves (w : World) :
    Calls Tryz.prog 116 #[] w (Ret (.agg halvesC.toArray) w) := by
 refine zin 26 Tryz.func116 ?_
 refine xa 2 [.int .u32 0, .int .u32 0, .int .u32 0, .int .u32 0, .int .u32 0, .int .u32 0, .int .u32 0, .int .u32 0, .int .u32 0, .int .u32 0, .int .u32 0, .int .u32 0, .int .u32 0, .int .u32 0, .int .u32 0, .int .u32 0] 208 fun b1 W1 n1 => ?_
 refine xa 4 [.int .u32 0, .int .u32 0, .int .u32 0, .int .u32 0, .int .u32 0, .int .u32 0, .int .u32 0, .int .u32 0, .int .u32 0, .int .u32 0, .int .u32 0, .int .u32 0, .int .u32 0, .int .u32 0, .int .u32 0, .int .u32 0] 208 fun b2 W2 n2 => ?_
 have d2_b1 := n2.ne n1.blk
 have hB := Bl.next n1.below n2.below
 have k1'1 := n1.blk.below n2.below
 refine zl 9 26 (fun zm zkv V => ∃ (k : Nat), zkv = [(0, .pointer (some ⟨b1, 0, none⟩)), (1, .pointer (some ⟨b2, 0, none⟩)), (5, .int .i64 (↑k : Int))] ∧ zm = 16 - ((↑k : Int)).toNat ∧ Below w.heap.size w V ∧ Blk V b1 ([.int .u32 0, .int .u32 0, .int .u32 0, .int .u32 0, .int .u32 0, .int .u32 0, .int .u32 0, .int .u32 0, .int .u32 0, .int .u32 0, .int .u32 0, .int .u32 0, .int .u32 0, .int .u32 0, .int .u32 0, .int .u32 0]) 208 ∧ Blk V b2 (halvesK k) 208 ∧ k ≤ 16) ⟨0, rfl, rfl, hB, k1'1, n2.blk, by decide⟩ ?_
 rintro _ _ W3 ⟨k, rfl, rfl, hB_3, k3_b1, k3_b2, hk⟩ J3 hJ3 r3
 refine xid 6 ((↑k : Int) < (16 : Int)) (fun hc4 => ?_) (fun hc4 => ?_)
 · refine xq 13 (congrArg (Value.int .u32) (show (IntKind.u32.wrap (↑k : Int) : Int) = (↑k : Int) from u32_wrap (by omega))) ?_
   refine zl 10 26 (fun zm zkv V => ∃ (j : Nat), zkv = [(0, .pointer (some ⟨b1, 0, none⟩)), (1, .pointer (some ⟨b2, 0, none⟩)), (2, .int .i64 (↑k : Int)), (3, .int .u32 (↑(stepN j k) : Int)), (5, .int .i64 (↑k : Int)), (10, .int .i64 (↑j : Int))] ∧ zm = 4 - ((↑j : Int)).toNat ∧ Below w.heap.size w V ∧ Blk V b1 ([.int .u32 0, .int .u32 0, .int .u32 0, .int .u32 0, .int .u32 0, .int .u32 0, .int .u32 0, .int .u32 0, .int .u32 0, .int .u32 0, .int .u32 0, .int .u32 0, .int .u32 0, .int .u32 0, .int .u32 0, .int .u32 0]) 208 ∧ Blk V b2 (halvesK k) 208 ∧ j ≤ 4) ⟨0, rfl, rfl, hB_3, k3_b1, k3_b2, by decide⟩ ?_
   rintro _ _ W5 ⟨j, rfl, rfl, hB_5, k5_b1, k5_b2, hj⟩ J5 hJ5 r5
   have hr : stepN j k < 4294967296 := stepN_lt (by omega)
   refine xid 6 ((↑j : Int) < (4 : Int)) (fun hc6 => ?_) (fun hc6 => ?_)
   · refine xq 7 (congrArg (Value.int .u32) (show (IntKind.u32.wrap (↑(BitVec.ofInt 32 (↑(stepN j k) : Int) &&& BitVec.ofInt 32 (1 : Int)).toNat : Int) : Int) = (↑((stepN j k) % 2) : Int) from (u32_and (b := 1) hr (by decide)).trans (by rw [and_one]))) ?_
     refine xq 6 (congrArg (Value.int .u32) (show (Int.fdiv (↑(stepN j k) : Int) (2 ^ 1) : Int) = (↑((stepN j k) / 2) : Int) from fdiv_cast _ 1)) ?_
     refine xie 9 (↑((stepN j k) % 2) : Int) (1 : Int) (fun hc7 => ?_) (fun hc7 => ?_)
     · refine xq 2 (congrArg (Value.int .u32) (show (IntKind.u32.wrap (↑(BitVec.ofInt 32 (↑((stepN j k) / 2) : Int) ^^^ BitVec.ofInt 32 (2197175160 : Int)).toNat : Int) : Int) = (↑(((stepN j k) / 2) ^^^ 2197175160) : Int) from u32_xor (b := 2197175160) (by omega) (by decide))) ?_
       refine xw 5 ((↑j : Int) + 1) ?_
       refine xv1 2 3 (show (.int .u32 (↑(((stepN j k) / 2) ^^^ 2197175160) : Int) : Value) = .int .u32 (↑(stepN (j + 1) k) : Int) from by rw [show stepN (j + 1) k = (((stepN j k) / 2) ^^^ 2197175160) by simp only [stepN, step1]; first | rw [if_pos (by omega)] | rw [if_neg (by omega)]]) ?_
       exact ze 0 (hJ5 _ _ _ ⟨j + 1, rfl, rfl, hB_5, k5_b1, k5_b2, by omega⟩ (by omega))
     refine xw 4 ((↑j : Int) + 1) ?_
     refine xv1 2 3 (show (.int .u32 (↑((stepN j k) / 2) : Int) : Value) = .int .u32 (↑(stepN (j + 1) k) : Int) from by rw [show stepN (j + 1) k = ((stepN j k) / 2) by simp only [stepN, step1]; first | rw [if_pos (by omega)] | rw [if_neg (by omega)]]) ?_
     exact ze 0 (hJ5 _ _ _ ⟨j + 1, rfl, rfl, hB_5, k5_b1, k5_b2, by omega⟩ (by omega))
   refine xia 8 (fun _ _ _ _ zo zx zy V => run_indexP (k := k) (b := b2) (off := 0) (i := (↑k : Int)) (ki := .i64) 1 k zo zx zy rfl (by omega) (by omega) Tryz.underlying208 (by kernel_rfl) V) ?_
   refine xsg 0 k5_b2 k (.int .u32 (↑(stepN j k) : Int)) (by first | decide | (simp [halvesK]; omega)) fun W8 u8 k8 => ?_
   replace k8 : Blk W8 b2 (halvesK (k + 1)) 208 := by rw [← (show (halvesK k).set k (.int .u32 (↑(stepN j k) : Int)) = halvesK (k + 1) from by rw [show j = 4 by omega]; exact halvesK_set (by omega))]; exact k8
   have g2 := n2.ge n1.below
   refine xw 4 ((↑k : Int) + 1) ?_
   have hB'1 := u8.below hB_5 g2
   have k5_b1'1 := u8.blk k5_b1 (Ne.symm (Ne.symm d2_b1))
   exact ze 2 (hJ3 _ _ _ ⟨k + 1, rfl, rfl, hB'1, k5_b1'1, k8, by omega⟩ (by omega))
 refine xlv 7 k3_b2.rp ?_
 refine xsvg 0 k3_b1 0 (halvesK k) (by simp [halvesK, Value.oneCell']) (by simp [halvesK]) fun W9 u9 k9 => ?_
 change Blk _ _ (halvesK k) _ at k9
 have g1 := n1.ge (Below.refl w.heap.size _)
 have hB'2 := u9.below hB_3 g1
 refine xec 3 k9 (.agg (halvesK k).toArray) ?_
 rw [show k = 16 by omega, halvesK_all]
 exact ⟨rfl, hB'2⟩
/-- a byte comes to a register -/
def crcStep (r : Nat) (x : UInt8) : Nat := ((((r ^^^ x.toNat) / 16) ^^^ half ((r ^^^ x.toNat) % 16)) / 16) ^^^ half ((((r ^^^ x.toNat) / 16) ^^^ half ((r ^^^ x.toNat) % 16)) % 16)
def crcRun (r : Nat) (l : List UInt8) : Nat := l.foldl crcStep r
theorem u8_lt (x : UInt8) : x.toNat < 4294967296 := Nat.lt_trans x.toNat_lt (by decide)
theorem half16_lt (n : Nat) : half (n % 16) < 4294967296 := half_lt (by omega)
theorem crcStep_lt {r : Nat} (h : r < 4294967296) (x : UInt8) : crcStep r x < 4294967296 := by
  have h1 : r ^^^ x.toNat < 4294967296 := Nat.xor_lt_two_pow (n := 32) h (u8_lt x)
  have h2 : ((r ^^^ x.toNat) / 16) ^^^ half ((r ^^^ x.toNat) % 16) < 4294967296 := Nat.xor_lt_two_pow (n := 32) (by omega) (half16_lt _)
  exact Nat.xor_lt_two_pow (n := 32) (by omega) (half16_lt _)
theorem crcRun_lt {r : Nat} (h : r < 4294967296) (l : List UInt8) : crcRun r l < 4294967296 := by
  unfold crcRun
  induction l generalizing r with
  | nil => exact h
  | cons x l ih => exact ih (crcStep_lt h x)
theorem crcRun_take {r : Nat} {l : List UInt8} {k : Nat} (h : k < l.length) : crcRun r (l.take (k + 1)) = crcStep (crcRun r (l.take k)) (l.getD k 0) := by
  unfold crcRun
  rw [List.take_succ_eq_append_getElem h, List.foldl_append]
  simp [List.getD, List.getElem?_eq_getElem h]
theorem Bys.elem {w : World} {b : Option Addr} {c : Nat} {l : List UInt8} (h : Bys w (.slice b l.length c) l) {k : Nat} (hk : k < l.length) : b.isSome = true ∧ w.cell? (elemAddr b (k * 1)) = some (.int .u8 ((l.getD k 0).toNat : Int)) := by
  refine Sl.elem h ?_
  rw [Nat.mul_one, List.getElem?_map, List.getElem?_eq_getElem hk]
  simp [List.getD, List.getElem?_eq_getElem hk, bv]
theorem u32_byte (x : UInt8) : IntKind.u32.wrap (x.toNat : Int) = (x.toNat : Int) := u32_wrap (u8_lt x)
set_option maxRecDepth 100000 in
set_option maxHeartbeats 1000000 in
theorem crc_run (r : Nat) (hr0 : r < 4294967296) (a : Option Addr) (c : Nat) (l : List UInt8) (w : World) (h : Bys w (.slice a l.length c) l) (hl : l.length ≤ 100000000) :
    Calls Tryz.prog 101 #[.int .u32 (↑r : Int), .slice a l.length c] w (Ret (.int .u32 (crcRun r l : Int)) w) := by
 refine zin 35 Tryz.func101 ?_
 refine xr 7 (args := #[]) (crc_halves _) fun W1 hb1 => ?_
 refine xa 0 [.int .u32 0, .int .u32 0, .int .u32 0, .int .u32 0, .int .u32 0, .int .u32 0, .int .u32 0, .int .u32 0, .int .u32 0, .int .u32 0, .int .u32 0, .int .u32 0, .int .u32 0, .int .u32 0, .int .u32 0, .int .u32 0] 208 fun b2 W2 n2 => ?_
 refine xsvg 0 n2.blk 0 halvesC (by simp [halvesC, Value.oneCell']) (by simp [halvesC]) fun W3 u3 k3 => ?_
 change Blk _ _ halvesC _ at k3
 have g2 := n2.ge hb1
 have hB := u3.below (Bl.next hb1 n2.below) g2
 refine zl 11 35 (fun zm zkv V => ∃ (k : Nat), zkv = [(0, .int .u32 (↑(crcRun r (l.take k)) : Int)), (4, .int .u32 0), (5, .pointer (some ⟨b2, 0, none⟩)), (9, .slice a l.length c), (10, .int .i64 (↑l.length : Int)), (11, .int .i64 (↑k : Int))] ∧ zm = l.length - ((↑k : Int)).toNat ∧ Below w.heap.size w V ∧ Blk V b2 halvesC 208 ∧ k ≤ l.length) ⟨0, rfl, rfl, hB, k3, Nat.zero_le _⟩ ?_
 rintro _ _ W4 ⟨k, rfl, rfl, hB_4, k4_b2, hk⟩ J4 hJ4 r4
 have h0 : crcRun r (l.take k) < 4294967296 := crcRun_lt hr0 _
 have h1 : (crcRun r (l.take k)) ^^^ (l.getD k 0).toNat < 4294967296 := Nat.xor_lt_two_pow (n := 32) h0 (u8_lt _)
 have h2 : (((crcRun r (l.take k)) ^^^ (l.getD k 0).toNat) / 16) ^^^ half (((crcRun r (l.take k)) ^^^ (l.getD k 0).toNat) % 16) < 4294967296 := Nat.xor_lt_two_pow (n := 32) (by omega) (half16_lt _)
 refine xid 6 ((↑k : Int) < (↑l.length : Int)) (fun hc5 => ?_) (fun hc5 => ?_)
 · refine xx 6 _ l.length k 1 (Bys.elem h (k := k) (by omega)).1 ?_
   refine xl 0 ((Bys.elem (h.below hB_4) (k := k) (by omega)).2) ?_
   refine xq 7 (congrArg (Value.int .u32) (show (IntKind.u32.wrap (↑(l.getD k 0).toNat : Int) : Int) = (↑(l.getD k 0).toNat : Int) from u32_byte _)) ?_
   refine xq 0 (congrArg (Value.int .u32) (show (IntKind.u32.wrap (↑(BitVec.ofInt 32 (↑(crcRun r (l.take k)) : Int) ^^^ BitVec.ofInt 32 (↑(l.getD k 0).toNat : Int)).toNat : Int) : Int) = (↑((crcRun r (l.take k)) ^^^ (l.getD k 0).toNat) : Int) from u32_xor h0 (u8_lt _))) ?_
   refine xq 6 (congrArg (Value.int .u32) (show (Int.fdiv (↑((crcRun r (l.take k)) ^^^ (l.getD k 0).toNat) : Int) (2 ^ 4) : Int) = (↑(((crcRun r (l.take k)) ^^^ (l.getD k 0).toNat) / 16) : Int) from fdiv_cast _ 4)) ?_
   refine xq 1 (congrArg (Value.int .u32) (show (IntKind.u32.wrap (↑(BitVec.ofInt 32 (↑((crcRun r (l.take k)) ^^^ (l.getD k 0).toNat) : Int) &&& BitVec.ofInt 32 (15 : Int)).toNat : Int) : Int) = (↑(((crcRun r (l.take k)) ^^^ (l.getD k 0).toNat) % 16) : Int) from (u32_and (b := 15) h1 (by decide)).trans (by rw [and_15]))) ?_
   refine xia 0 (fun _ _ _ _ zo zx zy V => run_indexP (k := (((crcRun r (l.take k)) ^^^ (l.getD k 0).toNat) % 16)) (b := b2) (off := 0) (i := (↑(((crcRun r (l.take k)) ^^^ (l.getD k 0).toNat) % 16) : Int)) (ki := .u32) 1 (((crcRun r (l.take k)) ^^^ (l.getD k 0).toNat) % 16) zo zx zy rfl (by omega) (by omega) Tryz.underlying208 (by kernel_rfl) V) ?_
   refine xl 0 (k4_b2.cell (i := (((crcRun r (l.take k)) ^^^ (l.getD k 0).toNat) % 16)) (halvesC_get (by omega))) ?_
   refine xq 0 (congrArg (Value.int .u32) (show (IntKind.u32.wrap (↑(BitVec.ofInt 32 (↑(((crcRun r (l.take k)) ^^^ (l.getD k 0).toNat) / 16) : Int) ^^^ BitVec.ofInt 32 (↑(half (((crcRun r (l.take k)) ^^^ (l.getD k 0).toNat) % 16)) : Int)).toNat : Int) : Int) = (↑((((crcRun r (l.take k)) ^^^ (l.getD k 0).toNat) / 16) ^^^ half (((crcRun r (l.take k)) ^^^ (l.getD k 0).toNat) % 16)) : Int) from u32_xor (Nat.lt_of_le_of_lt (Nat.div_le_self _ _) h1) (half16_lt _))) ?_
   refine xq 5 (congrArg (Value.int .u32) (show (Int.fdiv (↑((((crcRun r (l.take k)) ^^^ (l.getD k 0).toNat) / 16) ^^^ half (((crcRun r (l.take k)) ^^^ (l.getD k 0).toNat) % 16)) : Int) (2 ^ 4) : Int) = (↑(((((crcRun r (l.take k)) ^^^ (l.getD k 0).toNat) / 16) ^^^ half (((crcRun r (l.take k)) ^^^ (l.getD k 0).toNat) % 16)) / 16) : Int) from fdiv_cast _ 4)) ?_
   refine xq 1 (congrArg (Value.int .u32) (show (IntKind.u32.wrap (↑(BitVec.ofInt 32 (↑((((crcRun r (l.take k)) ^^^ (l.getD k 0).toNat) / 16) ^^^ half (((crcRun r (l.take k)) ^^^ (l.getD k 0).toNat) % 16)) : Int) &&& BitVec.ofInt 32 (15 : Int)).toNat : Int) : Int) = (↑(((((crcRun r (l.take k)) ^^^ (l.getD k 0).toNat) / 16) ^^^ half (((crcRun r (l.take k)) ^^^ (l.getD k 0).toNat) % 16)) % 16) : Int) from (u32_and (b := 15) h2 (by decide)).trans (by rw [and_15]))) ?_
   refine xia 0 (fun _ _ _ _ zo zx zy V => run_indexP (k := (((((crcRun r (l.take k)) ^^^ (l.getD k 0).toNat) / 16) ^^^ half (((crcRun r (l.take k)) ^^^ (l.getD k 0).toNat) % 16)) % 16)) (b := b2) (off := 0) (i := (↑(((((crcRun r (l.take k)) ^^^ (l.getD k 0).toNat) / 16) ^^^ half (((crcRun r (l.take k)) ^^^ (l.getD k 0).toNat) % 16)) % 16) : Int)) (ki := .u32) 1 (((((crcRun r (l.take k)) ^^^ (l.getD k 0).toNat) / 16) ^^^ half (((crcRun r (l.take k)) ^^^ (l.getD k 0).toNat) % 16)) % 16) zo zx zy rfl (by omega) (by omega) Tryz.underlying208 (by kernel_rfl) V) ?_
   refine xl 0 (k4_b2.cell (i := (((((crcRun r (l.take k)) ^^^ (l.getD k 0).toNat) / 16) ^^^ half (((crcRun r (l.take k)) ^^^ (l.getD k 0).toNat) % 16)) % 16)) (halvesC_get (by omega))) ?_
   refine xq 0 (congrArg (Value.int .u32) (show (IntKind.u32.wrap (↑(BitVec.ofInt 32 (↑(((((crcRun r (l.take k)) ^^^ (l.getD k 0).toNat) / 16) ^^^ half (((crcRun r (l.take k)) ^^^ (l.getD k 0).toNat) % 16)) / 16) : Int) ^^^ BitVec.ofInt 32 (↑(half (((((crcRun r (l.take k)) ^^^ (l.getD k 0).toNat) / 16) ^^^ half (((crcRun r (l.take k)) ^^^ (l.getD k 0).toNat) % 16)) % 16)) : Int)).toNat : Int) : Int) = (↑((((((crcRun r (l.take k)) ^^^ (l.getD k 0).toNat) / 16) ^^^ half (((crcRun r (l.take k)) ^^^ (l.getD k 0).toNat) % 16)) / 16) ^^^ half (((((crcRun r (l.take k)) ^^^ (l.getD k 0).toNat) / 16) ^^^ half (((crcRun r (l.take k)) ^^^ (l.getD k 0).toNat) % 16)) % 16)) : Int) from u32_xor (Nat.lt_of_le_of_lt (Nat.div_le_self _ _) h2) (half16_lt _))) ?_
   refine xw 5 ((↑k : Int) + 1) ?_
   refine xv1 2 0 (show (.int .u32 (↑((((((crcRun r (l.take k)) ^^^ (l.getD k 0).toNat) / 16) ^^^ half (((crcRun r (l.take k)) ^^^ (l.getD k 0).toNat) % 16)) / 16) ^^^ half (((((crcRun r (l.take k)) ^^^ (l.getD k 0).toNat) / 16) ^^^ half (((crcRun r (l.take k)) ^^^ (l.getD k 0).toNat) % 16)) % 16)) : Int) : Value) = .int .u32 (↑(crcRun r (l.take (k + 1))) : Int) from by rw [crcRun_take (by omega)]; rfl) ?_
   exact ze 0 (hJ4 _ _ _ ⟨k + 1, rfl, rfl, hB_4, k4_b2, by omega⟩ (by omega))
 refine xe 12 (.int .u32 (↑(crcRun r (l.take k)) : Int)) ?_
 rw [List.take_of_length_le (by omega)]
 exact ⟨rfl, hB_4⟩
end Go.Proofs.YtolblnjohaooaaaGreatDoor
namespace Go.Proofs.YtolblnjohaooaaaGreatDoor
open Go.RowKit Go.Extern.Stop Go.Stop Go.Extern
set_option linter.unusedVariables false
attribute [local irreducible] wpList wpAnyH Code.wp Oper.wp Go

set_option maxRecDepth 100000 in
set_option maxHeartbeats 1000000 in
theorem Put_2 (a : Option Addr) (c k : Nat) (l : List UInt8) (n : Int) (w : World) (h : Bys w (.slice a l.length c) l) (hl : l.length ≤ 100000) (hk : k + 2 ≤ l.length) (h0 : 0 ≤ n) (hb : n < 65536) :
    Calls Tryz.prog 58 #[.slice a l.length c, .int .i64 (↑k : Int), .int .i64 2, .int .i64 n] w (RetS (fun w' r => ∃ v, r = .tuple #[v, .int .i64 0] ∧ OwnB w.heap.size w' v (putB l k (leB n 2))) w) := by
 refine zin 33 Tryz.func58 ?_
 refine xr 12 (args := #[.slice a l.length c, .int .i64 (↑k : Int), .int .i64 2]) (there_2 a l.length c k hk (by omega) _) fun W1 hb1 => ?_
 refine xr 17 (args := #[.int .i64 n, .int .i64 2]) (fits_2 n h0 hb _) fun W2 hb2 => ?_
 have hB := Bl.next hb1 hb2
 refine xc 9 (args := #[.slice a l.length c]) (clone_bytes a c l _ (h.below hB) (by omega)) ?_
 rintro _ W3 ⟨_, rfl, hb3, ho⟩
 have hs3 := (Bl.next hb1 hb2).size
 have ho'1 := own_mono ho hs3
 obtain ⟨g, cap, rfl, hcap⟩ := OwnB.some ho'1 (by omega)
 refine xd 4 (.t w.heap.size [5]) ?_
 refine xsL (.e [0, 1] 2) (fun _ _ _ _ zo zx zy V => run_sliceL (k := k) (b := g) (off := 0) (n := l.length) (c := cap) (i := (↑k : Int)) (ki := .i64) 1 zo zx zy rfl (by omega) (by omega) Tryz.underlying22 (by kernel_rfl) V) ?_
 refine yc (.o [3, 4] 5) (args := #[.int .i64 n, .int .i64 2]) (.t w.heap.size [5]) (bytes_2 n h0 _) ?_
 rintro _ W4 ⟨_, rfl, hb4, h2⟩
 have hs4 := (Bl.next (Bl.next hB hb3) (below_drew W3)).size
 refine ⟨(SF.of_below _ hb4), ?_⟩
 have h2'1 := own_mono h2 hs4
 obtain ⟨p2, c2, rfl⟩ := (own_sl h2'1).slice
 have ho'2 := own_below (own_below ho'1 (below_drew W3)) hb4
 have hB'1 := Bl.next (Bl.next (Bl.next hB hb3) (below_drew W3)) hb4
 refine ybi (.o [] 6) (t2 := 22) (.t w.heap.size [5]) fun _ _ _ _ zJ zQ zo zx zy zK => op_copy (dLen := (l.length - k)) (dCap := (cap - k)) (off := (0 + k * 1)) ((leB n 2).length) ((leB n 2).map bv) ((putB l k (leB n 2)).map bv) zo Tryz.underlying22 (by kernel_rfl) zx zy (own_sl h2'1) ho'2 (by simp) (by simp [leB]; omega) (by simp [leB]; omega) (bv_one _) hB'1.size (by simp [putB, List.map_take, List.map_drop]) fun W5 o5 hg5 hb5 => ?_
 refine zK _ _ (sft_grown hb5 hg5 ho'2 (by decide)) ?_
 have hB'2 := hB'1.trans hb5
 refine xe 10 (.tuple #[.slice (some ⟨g, 0, none⟩) l.length cap, .int .i64 0]) ?_
 refine ⟨_, rfl, hB'2, _, rfl, ?_⟩
 unfold OwnB
 rw [show (putB l k (leB n 2)).length = l.length by simp [putB, leB]; omega]
 exact o5
set_option maxRecDepth 100000 in
set_option maxHeartbeats 1000000 in
theorem Put_4 (a : Option Addr) (c k : Nat) (l : List UInt8) (n : Int) (w : World) (h : Bys w (.slice a l.length c) l) (hl : l.length ≤ 100000) (hk : k + 4 ≤ l.length) (h0 : 0 ≤ n) (hb : n < 4294967296) :
    Calls Tryz.prog 58 #[.slice a l.length c, .int .i64 (↑k : Int), .int .i64 4, .int .i64 n] w (RetS (fun w' r => ∃ v, r = .tuple #[v, .int .i64 0] ∧ OwnB w.heap.size w' v (putB l k (leB n 4))) w) := by
 refine zin 33 Tryz.func58 ?_
 refine xr 12 (args := #[.slice a l.length c, .int .i64 (↑k : Int), .int .i64 4]) (there_4 a l.length c k hk (by omega) _) fun W1 hb1 => ?_
 refine xr 17 (args := #[.int .i64 n, .int .i64 4]) (fits_4 n h0 hb _) fun W2 hb2 => ?_
 have hB := Bl.next hb1 hb2
 refine xc 9 (args := #[.slice a l.length c]) (clone_bytes a c l _ (h.below hB) (by omega)) ?_
 rintro _ W3 ⟨_, rfl, hb3, ho⟩
 have hs3 := (Bl.next hb1 hb2).size
 have ho'1 := own_mono ho hs3
 obtain ⟨g, cap, rfl, hcap⟩ := OwnB.some ho'1 (by omega)
 refine xd 4 (.t w.heap.size [5]) ?_
 refine xsL (.e [0, 1] 2) (fun _ _ _ _ zo zx zy V => run_sliceL (k := k) (b := g) (off := 0) (n := l.length) (c := cap) (i := (↑k : Int)) (ki := .i64) 1 zo zx zy rfl (by omega) (by omega) Tryz.underlying22 (by kernel_rfl) V) ?_
 refine yc (.o [3, 4] 5) (args := #[.int .i64 n, .int .i64 4]) (.t w.heap.size [5]) (bytes_4 n h0 _) ?_
 rintro _ W4 ⟨_, rfl, hb4, h2⟩
 have hs4 := (Bl.next (Bl.next hB hb3) (below_drew W3)).size
 refine ⟨(SF.of_below _ hb4), ?_⟩
 have h2'1 := own_mono h2 hs4
 obtain ⟨p2, c2, rfl⟩ := (own_sl h2'1).slice
 have ho'2 := own_below (own_below ho'1 (below_drew W3)) hb4
 have hB'1 := Bl.next (Bl.next (Bl.next hB hb3) (below_drew W3)) hb4
 refine ybi (.o [] 6) (t2 := 22) (.t w.heap.size [5]) fun _ _ _ _ zJ zQ zo zx zy zK => op_copy (dLen := (l.length - k)) (dCap := (cap - k)) (off := (0 + k * 1)) ((leB n 4).length) ((leB n 4).map bv) ((putB l k (leB n 4)).map bv) zo Tryz.underlying22 (by kernel_rfl) zx zy (own_sl h2'1) ho'2 (by simp) (by simp [leB]; omega) (by simp [leB]; omega) (bv_one _) hB'1.size (by simp [putB, List.map_take, List.map_drop]) fun W5 o5 hg5 hb5 => ?_
 refine zK _ _ (sft_grown hb5 hg5 ho'2 (by decide)) ?_
 have hB'2 := hB'1.trans hb5
 refine xe 10 (.tuple #[.slice (some ⟨g, 0, none⟩) l.length cap, .int .i64 0]) ?_
 refine ⟨_, rfl, hB'2, _, rfl, ?_⟩
 unfold OwnB
 rw [show (putB l k (leB n 4)).length = l.length by simp [putB, leB]; omega]
 exact o5
end Go.Proofs.YtolblnjohaooaaaGreatDoor
namespace Go.Proofs.YtolblnjohaooaaaGreatDoor
open Go.RowKit Go.Extern.Stop Go.Stop Go.Extern
set_option linter.unusedVariables false
attribute [local irreducible] wpList wpAnyH Code.wp Oper.wp Go

def crcSum (l : List UInt8) : Nat := crcRun 4294967295 l ^^^ 4294967295
theorem crcSum_lt (l : List UInt8) : crcSum l < 4294967296 := Nat.xor_lt_two_pow (n := 32) (crcRun_lt (by decide) l) (by decide)
theorem i64_nat {n : Nat} (h : n < 9223372036854775808) : IntKind.i64.wrap (n : Int) = (n : Int) := IntWalk.i64_in _ (by omega)
theorem i64_xor {a b : Nat} (ha : a < 4294967296) (hb : b < 4294967296) : IntKind.i64.wrap (↑(BitVec.ofInt 64 (a : Int) ^^^ BitVec.ofInt 64 (b : Int)).toNat : Int) = ((a ^^^ b : Nat) : Int) := by
  rw [BitVec.ofInt_natCast, BitVec.ofInt_natCast, BitVec.toNat_xor, BitVec.toNat_ofNat, BitVec.toNat_ofNat, Nat.mod_eq_of_lt (by omega), Nat.mod_eq_of_lt (by omega)]
  have := Nat.xor_lt_two_pow (n := 32) ha hb
  exact i64_nat (by omega)
set_option maxRecDepth 100000 in
set_option maxHeartbeats 1000000 in
theorem crc_Sum1 (g : Nat) (a : Option Addr) (c : Nat) (l : List UInt8) (w : World) (hk : Blk w g [.slice a l.length c] 22) (h : Bys w (.slice a l.length c) l) (hl : l.length ≤ 100000000) :
    Calls Tryz.prog 78 #[.slice (some ⟨g, 0, none⟩) 1 1] w (Ret (.int .i64 (crcSum l : Int)) w) := by
 refine zin 19 Tryz.func78 ?_
 refine xu 19 3 ?_
 refine xb 14 0 hk ?_
 refine xr 6 (args := #[.int .u32 4294967295, .slice a l.length c]) (crc_run 4294967295 (by decide) a c l _ (h.below (Below.refl w.heap.size _)) hl) fun W1 hb1 => ?_
 refine xq 24 (congrArg (Value.int .u32) (show (IntKind.u32.wrap (↑(BitVec.ofInt 32 (↑(crcRun 4294967295 l) : Int) ^^^ BitVec.ofInt 32 (4294967295 : Int)).toNat : Int) : Int) = (↑(crcSum l) : Int) from u32_xor (b := 4294967295) (crcRun_lt (by decide) l) (by decide))) ?_
 refine xq 0 (congrArg (Value.int .i64) (show (IntKind.i64.wrap (↑(crcSum l) : Int) : Int) = (↑(crcSum l) : Int) from i64_nat (by have := crcSum_lt l; omega))) ?_
 exact xe 4 (.int .i64 (↑(crcSum l) : Int)) ⟨rfl, hb1⟩
theorem crc_Sum1N (g : Nat) (a : Option Addr) (n c : Nat) (l : List UInt8) (w : World) (hn : l.length = n) (hk : Blk w g [.slice a n c] 22) (h : Bys w (.slice a n c) l) (hl : n ≤ 100000000) :
    Calls Tryz.prog 78 #[.slice (some ⟨g, 0, none⟩) 1 1] w (Ret (.int .i64 (crcSum l : Int)) w) := by
  subst hn; exact crc_Sum1 g a c l w hk h hl
/-- the salt of a kind -/
def saltN (kind : Int) : Nat := if kind = 1 then 160774 else if kind = 2 then 121107 else if kind = 3 then 240779 else if kind = 4 then 160478 else 0
theorem saltN_lt (kind : Int) : saltN kind < 4294967296 := by unfold saltN; (repeat' split) <;> omega
set_option maxRecDepth 100000 in
set_option maxHeartbeats 1000000 in
theorem seal_Salt (kind : Int) (w : World) :
    Calls Tryz.prog 79 #[.int .i64 kind] w (Ret (.int .i64 (saltN kind : Int)) w) := by
 refine zin 12 Tryz.func79 ?_
 refine xie 18 kind (1 : Int) (fun hc1 => ?_) (fun hc1 => ?_)
 · exact xe 8 (.int .i64 160774) ⟨by simp_all [saltN], (Below.refl w.heap.size _)⟩
 refine xie 6 kind (2 : Int) (fun hc2 => ?_) (fun hc2 => ?_)
 · exact xe 8 (.int .i64 121107) ⟨by simp_all [saltN], (Below.refl w.heap.size _)⟩
 refine xie 6 kind (3 : Int) (fun hc3 => ?_) (fun hc3 => ?_)
 · exact xe 8 (.int .i64 240779) ⟨by simp_all [saltN], (Below.refl w.heap.size _)⟩
 refine xie 6 kind (4 : Int) (fun hc4 => ?_) (fun hc4 => ?_)
 · exact xe 8 (.int .i64 160478) ⟨by simp_all [saltN], (Below.refl w.heap.size _)⟩
 exact xe 9 (.int .i64 0) ⟨by simp_all [saltN], (Below.refl w.heap.size _)⟩
set_option maxRecDepth 100000 in
set_option maxHeartbeats 1000000 in
theorem seal_known (kind no : Int) (h1 : 1 ≤ kind) (h2 : kind ≤ 4) (h3 : 0 ≤ no) (h4 : no < 14400) (w : World) :
    Calls Tryz.prog 57 #[.int .i64 kind, .int .i64 no] w (Ret (.bool true) w) := by
 refine zin 19 Tryz.func57 ?_
 refine xgk 10 [6, 7] (show (decide (kind ≥ (1 : Int)) : Bool) = true from decide_eq_true h1) ?_
 refine xgk 4 [9, 10, 11] (show (decide (kind ≤ (4 : Int)) : Bool) = true from decide_eq_true h2) ?_
 refine xgk 4 [13, 14, 15] (show (decide (no ≥ (0 : Int)) : Bool) = true from decide_eq_true h3) ?_
 exact xe 7 (.bool (decide (no < (14400 : Int)))) ⟨by rw [decide_eq_true h4], (Below.refl w.heap.size _)⟩
theorem Bys.take {w : World} {a : Option Addr} {n c : Nat} {l : List UInt8} (h : Bys w (.slice a n c) l) (hn : l.length = n) (m : Nat) (hm : m ≤ n) : Bys w (.slice a m c) (l.take m) := by
  have hlen : (l.take m).length = m := by simp; omega
  rcases h with ⟨a', c', h1, h2, h3⟩ | ⟨b, off, cap, h1, h2, h3, h4⟩
  · obtain rfl : m = 0 := by omega
    simp only [Value.slice.injEq] at h1
    exact .inl ⟨a, c, rfl, by simp, by simp⟩
  · simp only [Value.slice.injEq] at h1
    obtain ⟨rfl, _, rfl⟩ := h1
    refine .inr ⟨b, off, c, by rw [hlen], by omega, h3, fun j x hj => h4 j x ?_⟩
    have hjm : j < m := by have := (List.getElem?_eq_some_iff.1 hj).1; simp at this; omega
    rwa [List.map_take, List.getElem?_take_of_lt hjm] at hj
/-- the sum that a block must have -/
def sumB (l : List UInt8) (kind : Int) : Nat := crcSum (l.take 252) ^^^ saltN kind
theorem sumB_lt (l : List UInt8) (kind : Int) : sumB l kind < 4294967296 := Nat.xor_lt_two_pow (n := 32) (crcSum_lt _) (saltN_lt _)
set_option maxRecDepth 100000 in
set_option maxHeartbeats 1000000 in
theorem seal_sum (kind : Int) (a : Option Addr) (c : Nat) (l : List UInt8) (w : World) (hn : l.length = 256) (hc : 256 ≤ c) (h : Bys w (.slice a 256 c) l) :
    Calls Tryz.prog 59 #[.slice a 256 c, .int .i64 kind] w (Ret (.int .i64 (sumB l kind : Int)) w) := by
 refine zin 12 Tryz.func59 ?_
 refine xsH 8 (fun _ _ _ _ zo zx zy V => run_sliceH (k := 252) (b := a) (n := 256) (c := c) (i := 252) (ki := .i64) zo zx zy rfl (by omega) Tryz.underlying22 (by kernel_rfl) V) ?_
 refine xbs 0 1 [.slice a 252 c] 22 fun b1 W1 n1 => ?_
 refine xr 0 (args := #[.slice (some ⟨b1, 0, none⟩) 1 1]) (crc_Sum1N b1 a 252 c (l.take 252) _ (by simp; omega) n1.blk ((h.take hn 252 (by decide)).below n1.below) (by decide)) fun W2 hb2 => ?_
 refine xr 1 (args := #[.int .i64 kind]) (seal_Salt kind _) fun W3 hb3 => ?_
 refine xq 0 (congrArg (Value.int .i64) (show (IntKind.i64.wrap (↑(BitVec.ofInt 64 (↑(crcSum (l.take 252)) : Int) ^^^ BitVec.ofInt 64 (↑(saltN kind) : Int)).toNat : Int) : Int) = (↑(sumB l kind) : Int) from i64_xor (crcSum_lt _) (saltN_lt _))) ?_
 have hB'1 := Bl.next (Bl.next n1.below hb2) hb3
 exact xe 4 (.int .i64 (↑(sumB l kind) : Int)) ⟨rfl, hB'1⟩
theorem putB_len {l : List UInt8} {k : Nat} {x : List UInt8} (h : k + x.length ≤ l.length) : (putB l k x).length = l.length := by simp [putB]; omega
theorem zerosB (n : Nat) : zeros (Value.int .u8 0).cells.toList n = (List.replicate n (0 : UInt8)).map bv := by
  rw [show (Value.int .u8 0).cells.toList = [Value.int .u8 0] from rfl, zeros, List.map_replicate]
  induction n with
  | zero => rfl
  | succ n ih => rw [List.replicate_succ, List.flatten_cons, ih, List.replicate_succ]; rfl
theorem bys_of {w : World} {v : Value} {n : Nat} {l : List UInt8} (h : Sl w v n (l.map bv)) (hn : l.length = n) : Bys w v l := by subst hn; exact h
theorem own_cap {w : World} {base n c size : Nat} {e : TypeId} {p : Option Addr} {xs : List Value} (h : w.ownsRow base e size (.slice p n c) n xs) (hn : 0 < n) : n ≤ c := by
  rcases h.2 with ⟨_, h0⟩ | ⟨g, cap, cur, hv, _, _, hc, _⟩
  · omega
  · simp only [Value.slice.injEq] at hv; omega
theorem putN {m : Nat} {l : List UInt8} {k : Nat} {x : List UInt8} {w : World} {e : Ending} {w' : World} (hm : l.length = m) (hk : k + x.length ≤ m) (h : RetS (fun w' r => ∃ v, r = .tuple #[v, .int .i64 0] ∧ OwnB w.heap.size w' v (putB l k x)) w e w') :
    RetS (fun w' r => ∃ p c, r = .tuple #[.slice p m c, .int .i64 0] ∧ w'.ownsRow w.heap.size 5 1 (.slice p m c) m ((putB l k x).map bv)) w e w' := by
  obtain ⟨r, h1, h2, v, h3, h4⟩ := h
  unfold OwnB at h4
  rw [putB_len (by omega), hm] at h4
  obtain ⟨p, c, rfl⟩ := (own_sl h4).slice
  exact ⟨r, h1, h2, p, c, h3, h4⟩
theorem Put_4N (a : Option Addr) (m c k : Nat) (ki : Int) (l : List UInt8) (n : Int) (w : World) (hm : l.length = m) (hki : ki = (k : Int)) (h : Bys w (.slice a m c) l) (hl : m ≤ 100000) (hk : k + 4 ≤ m) (h0 : 0 ≤ n) (hb : n < 4294967296) :
    Calls Tryz.prog 58 #[.slice a m c, .int .i64 ki, .int .i64 4, .int .i64 n] w (RetS (fun w' r => ∃ p c, r = .tuple #[.slice p m c, .int .i64 0] ∧ w'.ownsRow w.heap.size 5 1 (.slice p m c) m ((putB l k (leB n 4)).map bv)) w) := by
  subst hki
  refine (show Calls _ _ #[.slice a m c, .int .i64 (k : Int), .int .i64 4, .int .i64 n] w _ from ?_)
  have := Put_4 a c k l n w (by rw [hm]; exact h) (by omega) (by omega) h0 hb
  rw [hm] at this
  exact this.mono fun e w' q => putN hm (by rw [leB_len]; omega) q
theorem Put_2N (a : Option Addr) (m c k : Nat) (ki : Int) (l : List UInt8) (n : Int) (w : World) (hm : l.length = m) (hki : ki = (k : Int)) (h : Bys w (.slice a m c) l) (hl : m ≤ 100000) (hk : k + 2 ≤ m) (h0 : 0 ≤ n) (hb : n < 65536) :
    Calls Tryz.prog 58 #[.slice a m c, .int .i64 ki, .int .i64 2, .int .i64 n] w (RetS (fun w' r => ∃ p c, r = .tuple #[.slice p m c, .int .i64 0] ∧ w'.ownsRow w.heap.size 5 1 (.slice p m c) m ((putB l k (leB n 2)).map bv)) w) := by
  subst hki
  have := Put_2 a c k l n w (by rw [hm]; exact h) (by omega) (by omega) h0 hb
  rw [hm] at this
  exact this.mono fun e w' q => putN hm (by rw [leB_len]; omega) q
def seal1 (li : List UInt8) : List UInt8 := putB (List.replicate 256 0) 8 li
def seal2 (no : Int) (li : List UInt8) : List UInt8 := putB (seal1 li) 0 (leB no 4)
def seal3 (kind no : Int) (li : List UInt8) : List UInt8 := putB (seal2 no li) 4 (leB kind 2)
/-- a sealed block -/
def sealB (kind no : Int) (li : List UInt8) : List UInt8 := putB (seal3 kind no li) 252 (leB (sumB (seal3 kind no li) kind) 4)
theorem seal1_len {li : List UInt8} (h : li.length ≤ 244) : (seal1 li).length = 256 := by rw [seal1, putB_len (by rw [List.length_replicate]; omega), List.length_replicate]
theorem seal2_len {no : Int} {li : List UInt8} (h : li.length ≤ 244) : (seal2 no li).length = 256 := by rw [seal2, putB_len (by rw [leB_len, seal1_len h]; omega), seal1_len h]
theorem seal3_len {kind no : Int} {li : List UInt8} (h : li.length ≤ 244) : (seal3 kind no li).length = 256 := by rw [seal3, putB_len (by rw [leB_len, seal2_len h]; omega), seal2_len h]
theorem sealB_len {kind no : Int} {li : List UInt8} (h : li.length ≤ 244) : (sealB kind no li).length = 256 := by rw [sealB, putB_len (by rw [leB_len, seal3_len h]; omega), seal3_len h]
set_option maxRecDepth 100000 in
set_option maxHeartbeats 1000000 in
theorem seal_Seal (kind no : Int) (h1 : 1 ≤ kind) (h2 : kind ≤ 4) (h3 : 0 ≤ no) (h4 : no < 14400) (a : Option Addr) (c : Nat) (li : List UInt8) (w : World) (hl : li.length ≤ 244) (h : Bys w (.slice a li.length c) li) :
    Calls Tryz.prog 35 #[.int .i64 kind, .int .i64 no, .slice a li.length c] w (RetS (fun w' r => ∃ p c, r = .tuple #[.slice p 256 c, .int .i64 0] ∧ w'.ownsRow w.heap.size 5 1 (.slice p 256 c) 256 ((sealB kind no li).map bv)) w) := by
 refine zin 54 Tryz.func35 ?_
 refine xr 11 (args := #[.int .i64 kind, .int .i64 no]) (seal_known kind no h1 h2 h3 h4 _) fun W1 hb1 => ?_
 refine xk 14 (show (decide ((↑li.length : Int) > (244 : Int)) : Bool) = false from decide_eq_false (by omega)) ?_
 refine xmk 4 fun _ _ _ _ zJ zQ zo zx zy zK => op_make 256 (.int .u8 0) 1 1 ((List.replicate 256 (0 : UInt8)).map bv) zo zx zy Tryz.underlying22 (by kernel_rfl) rfl (by omega) (by omega) (zerosB 256) fun b2 W2 n2 => ?_
 refine zK _ _ ?_
 have o2 := own_of_blk (size := 1) (n := 256) n2.blk (n2.ge hb1) (by simp) (by unfold maxLen; omega)
 have hB := Bl.next hb1 n2.below
 refine xbi 8 (t2 := 22) fun _ _ _ _ zJ zQ zo zx zy zK => op_copy (dLen := 248) (dCap := 248) (off := 8) li.length (li.map bv) ((seal1 li).map bv) zo Tryz.underlying22 (by kernel_rfl) zx zy (h.below hB) o2 (by simp) (by omega) (by omega) (bv_one li) hB.size (by simp [seal1, putB, List.map_drop]) fun W3 o3 hg3 hb3 => ?_
 refine zK _ _ ?_
 refine xbs 9 2 [.int .i64 0, .int .i64 4, .int .i64 no, .int .i64 4, .int .i64 2, .int .i64 kind] 122 fun b4 W4 n4 => ?_
 refine xu 5 4 ?_
 refine xlv 14 (n4.blk.rpp 0 3) ?_
 refine xa 0 [.int .i64 0, .int .i64 0, .int .i64 0] 122 fun b5 W5 n5 => ?_
 have d5_b4 := n5.ne n4.blk
 refine xsv 0 n5.blk [.int .i64 0, .int .i64 4, .int .i64 no] fun W6 u6 k6 => ?_
 have g5 := n5.ge (Bl.next (hB.trans hb3) n4.below)
 refine xb 5 0 k6 ?_
 refine xb 1 1 k6 ?_
 refine xb 1 2 k6 ?_
 have o3'1 := u6.own2 (own_below (own_below o3 n4.below) n5.below) n5.blk (by decide)
 refine xc 0 (args := #[.slice (some ⟨b2, 0, none⟩) 256 256, .int .i64 0, .int .i64 4, .int .i64 no]) (Put_4N (some ⟨b2, 0, none⟩) 256 256 0 0 (seal1 li) (no) _ (seal1_len hl) rfl (bys_of (own_sl o3'1) (seal1_len hl)) (by decide) (by decide) (h3) (by omega)) ?_
 rintro _ W7 ⟨_, rfl, hb7, p1, c1, rfl, o1⟩
 have hs7 := (u6.below (Bl.next (Bl.next (hB.trans hb3) n4.below) n5.below) g5).size
 have k4'1 := (u6.blk (n4.blk.below n5.below) (Ne.symm (Ne.symm d5_b4))).below hb7
 refine xlv 26 (k4'1.rpp 3 3) ?_
 refine xa 0 [.int .i64 0, .int .i64 0, .int .i64 0] 122 fun b8 W8 n8 => ?_
 have d8_b4 := n8.ne k4'1
 have k6'1 := k6.below hb7
 have d8_b5 := n8.ne k6'1
 refine xsv 0 n8.blk [.int .i64 4, .int .i64 2, .int .i64 kind] fun W9 u9 k9 => ?_
 have g8 := n8.ge (Bl.next (u6.below (Bl.next (Bl.next (hB.trans hb3) n4.below) n5.below) g5) hb7)
 refine xb 5 0 k9 ?_
 refine xb 1 1 k9 ?_
 refine xb 1 2 k9 ?_
 have o1'1 := u9.own2 (own_below (own_mono o1 hs7) n8.below) n8.blk (by decide)
 refine xc 0 (args := #[.slice p1 256 c1, .int .i64 4, .int .i64 2, .int .i64 kind]) (Put_2N p1 256 c1 4 4 (seal2 no li) (kind) _ (seal2_len hl) rfl (bys_of (own_sl o1'1) (seal2_len hl)) (by decide) (by decide) (by omega) (by omega)) ?_
 rintro _ W10 ⟨_, rfl, hb10, p2, c2, rfl, o2⟩
 have hs10 := (u9.below (Bl.next (Bl.next (u6.below (Bl.next (Bl.next (hB.trans hb3) n4.below) n5.below) g5) hb7) n8.below) g8).size
 have o2'1 := own_mono o2 hs10
 refine xr 29 (args := #[.slice p2 256 c2, .int .i64 kind]) (seal_sum kind p2 c2 (seal3 kind no li) _ (seal3_len hl) (own_cap o2'1 (by decide)) (bys_of (own_sl o2'1) (seal3_len hl))) fun W11 hb11 => ?_
 have o2'2 := own_below o2'1 hb11
 refine xc 0 (args := #[.slice p2 256 c2, .int .i64 252, .int .i64 4, .int .i64 (↑(sumB (seal3 kind no li) kind) : Int)]) (Put_4N p2 256 c2 252 252 (seal3 kind no li) ((sumB (seal3 kind no li) kind : Int)) _ (seal3_len hl) rfl (bys_of (own_sl o2'2) (seal3_len hl)) (by decide) (by decide) (Int.natCast_nonneg _) (by have := sumB_lt (seal3 kind no li) kind; omega)) ?_
 have o3'2 := own_below o3'1 hb7
 rintro _ W12 ⟨_, rfl, hb12, p3, c3, rfl, o3⟩
 have hs12 := (Bl.next (Bl.next (u9.below (Bl.next (Bl.next (u6.below (Bl.next (Bl.next (hB.trans hb3) n4.below) n5.below) g5) hb7) n8.below) g8) hb10) hb11).size
 have hB'1 := Bl.next (Bl.next (Bl.next (u9.below (Bl.next (Bl.next (u6.below (Bl.next (Bl.next (hB.trans hb3) n4.below) n5.below) g5) hb7) n8.below) g8) hb10) hb11) hb12
 have o3'3 := own_mono o3 hs12
 exact xe 14 (.tuple #[.slice p3 256 c3, .int .i64 0]) ⟨_, rfl, hB'1, _, _, rfl, o3'3⟩
end Go.Proofs.YtolblnjohaooaaaGreatDoor
namespace Go.Proofs.YtolblnjohaooaaaGreatDoor
open Go.RowKit
set_option linter.unusedVariables false
section
variable {P : Program} {Q : Exit → Act → World → Prop} {a : Act} {w : World} {K : Act → World → Prop}
/-- a cut of a slice at both bounds, its capacity cut too -/
theorem run_slice3 {o : Oper} {t e : TypeId} {x y y2 y3 : Operand} {b off n k h c : Nat} {i j j2 : Int} {ki kj kj2 : IntKind} (size off' d : Nat) (ho : o.op = .slice t x (some y) (some y2) (some y3)) (hx : a.eval x = .slice (some ⟨b, off, none⟩) n c) (hy : a.eval y = .int ki i) (hi : i = (k : Int)) (hy2 : a.eval y2 = .int kj j) (hj : j = (h : Int)) (hy3 : a.eval y3 = .int kj2 j2) (hj2 : j2 = (h : Int))
    (hk : k < h) (hc : h ≤ c) (hoff : off + k * size = off') (hd : h - k = d) (ht : P.underlying t = some (.slice e)) (hs : (P.info? e).map (·.size) = some size) (w : World) : (execOp a.eval o).run P w = .ok (.value (.slice (some ⟨b, off', none⟩) d d)) w := by
  cases hq : P.info? e with
  | none => simp [hq] at hs
  | some q =>
    have hj : q.size = size := by simpa [hq] using hs
    subst hi hj hj2 hoff hd
    have h1 : (0 : Int) ≤ (k : Int) := by omega
    have h2 : (0 : Int) ≤ (h : Int) := by omega
    have h3 : (k : Int) ≤ (h : Int) := by omega
    have h4 : (h : Int) ≤ (c : Int) := by omega
    have h5 : ¬ h = k := by omega
    simp_all [execOp, Instr.sliceAt, Instr.slice, Instr.sliceBounds, Instr.sliceBound, asIntOf, run_underlying ht, sizeOf, typeInfo, Addr.add_mid]
/-- where a slice begins that is cut at k -/
def cutA (b : Option Addr) (k c size : Nat) : Option Addr := if c = k then b else b.map (·.add (k * size))
theorem run_sliceLA {o : Oper} {t e : TypeId} {x y : Operand} {b : Option Addr} {n k c : Nat} {i : Int} {ki : IntKind} (size : Nat) (ho : o.op = .slice t x (some y) none none) (hx : a.eval x = .slice b n c) (hy : a.eval y = .int ki i) (hi : i = (k : Int)) (hk : k ≤ n)
    (ht : P.underlying t = some (.slice e)) (hs : (P.info? e).map (·.size) = some size) (w : World) : (execOp a.eval o).run P w = .ok (.value (.slice (cutA b k c size) (n - k) (c - k))) w := by
  cases hq : P.info? e with
  | none => simp [hq] at hs
  | some j =>
    have hj : j.size = size := by simpa [hq] using hs
    subst hi
    have h1 : (0 : Int) ≤ (k : Int) := by omega
    have h2 : (k : Int) ≤ (n : Int) := by omega
    by_cases h3 : c = k
    · simp [execOp, ho, hx, hy, Instr.sliceAt, Instr.slice, Instr.sliceBounds, Instr.sliceBound, asIntOf, run_underlying ht, sizeOf, typeInfo, hq, hk, h3, cutA]
    · simp [execOp, ho, hx, hy, Instr.sliceAt, Instr.slice, Instr.sliceBounds, Instr.sliceBound, asIntOf, run_underlying ht, sizeOf, typeInfo, hq, hj, hk, h3, cutA]
end
end Go.Proofs.YtolblnjohaooaaaGreatDoor
namespace Go.Proofs.YtolblnjohaooaaaGreatDoor
open Go.RowKit Go.Extern.Stop Go.Stop Go.Extern
set_option linter.unusedVariables false

theorem errno_eq {P : Program} (w : World) {ti tn : TypeId} {ms : Array (String × TypeId)} {i : TypeInfo} {k : IntKind} (a b : Int)
    (hi : P.underlying ti = some (.interface ms)) (hn : P.underlying tn = some (.int k)) (hinfo : P.info? tn = some i) (hcomp : i.comparable = true) :
    (binOp .eql ti (.iface tn (.int k a)) (.iface tn (.int k b))).run P w = .ok (.bool (a == b)) w := by
  have h : ∀ d : Nat, (Op.equalIn (d + 2) ti (.iface tn (.int k a)) (.iface tn (.int k b))).run P w = .ok (a == b) w := fun d => by simp [Op.equalIn, run_underlying hi, run_underlying hn, typeInfo, hinfo, hcomp]
  simp only [binOp]
  simp [Op.equal, Op.maxDepth, h 9998]
theorem Tryz.eqN (a b : Int) (w : World) : (binOp .eql 47 (.iface 43 (.int .i64 a)) (.iface 43 (.int .i64 b))).run Tryz.prog w = .ok (.bool (a == b)) w := by
  obtain ⟨i, h1, h2⟩ := Option.map_eq_some_iff.1 (show (Tryz.prog.info? 43).map (·.comparable) = some true by kernel_rfl)
  exact errno_eq w a b Tryz.underlying47 Tryz.underlying43 h1 h2
theorem Tryz.methComparable (h : Value) (w : World) : (Go.method 346 169 (.agg #[h]) "Comparable").run Tryz.prog w = .ok (155, .agg #[h]) w := by kernel_rfl
theorem Tryz.comparableN (w : World) : (callFunc 155 #[.agg #[.pointer (some ⟨1, 43, none⟩)]]).run Tryz.prog w = .ok (Next.value (.bool true)) w := by kernel_rfl

set_option maxRecDepth 100000 in
set_option maxHeartbeats 2000000 in
theorem errors_isN (c d : Int) (w : World) : Calls Tryz.prog 82 #[.iface 43 (.int .i64 c), .iface 43 (.int .i64 d), .bool true] w (Ret (.bool (c == d)) w) := by
  have y1 := Tryz.eqN
  have y2 := Tryz.noIsN
  have y3 := Tryz.noUnwrapN
  have y4 := Tryz.noUnwrapsN
  go_enter Tryz.func82, Tryz.ntmps82
  go_wp2_with fail
  go_loopw [0] (fun v wr => v = .iface 43 (.int .i64 c) ∧ wr = w) (fun _ _ => 0)
  case atStart => exact ⟨rfl, rfl⟩
  case round =>
    obtain ⟨rfl, rfl⟩ := hrel
    by_cases h : c = d
    · have h' : (c == d) = true := by simpa using h
      have HH := Lib.hid h; clear h
      go_wp2_with fail
      go_ret
      exact ⟨by rw [h']; rfl, Below.refl _ _⟩
    · have h' : (c == d) = false := by simpa using h
      have HH := Lib.hid h; clear h
      go_wp2_with fail
      go_ret
      exact ⟨by rw [h']; rfl, Below.refl _ _⟩
set_option maxRecDepth 100000 in
set_option maxHeartbeats 2000000 in
theorem errors_IsN (c d : Int) (w : World) : Calls Tryz.prog 61 #[.iface 43 (.int .i64 c), .iface 43 (.int .i64 d)] w (Ret (.bool (c == d)) w) := by
  have h66 := @run_callFunc_extern Tryz.prog 81 _ ReflectliteType.typeOf Tryz.func81 (by kernel_rfl) (by kernel_rfl) (by kernel_rfl) (by kernel_rfl)
  have y1 := Tryz.typeOfN
  have y2 := Tryz.methComparable
  have y3 := Tryz.comparableN
  go_enter Tryz.func61, Tryz.ntmps61
  go_wp2_with fail
  refine (errors_isN c d _).mono ?_
  rintro e w' ⟨rfl, hb⟩
  go_wp2_with fail
  go_ret
  exact ⟨rfl, hb⟩
end Go.Proofs.YtolblnjohaooaaaGreatDoor
namespace Go.Proofs.YtolblnjohaooaaaGreatDoor
open Go.RowKit Go.Extern.Stop Go.Stop Go.Extern
set_option linter.unusedVariables false

set_option maxHeartbeats 1000000 in
theorem block_told (no c : Int) (w : World) : Calls Tryz.prog 37 #[.int .i64 no, .iface 43 (.int .i64 c)] w (RetS (fun w' r => ErrV w' (if c = 0 then [] else [some no]) (if c = 0 then none else some c) r) w) := by
  by_cases h : c = 0
  · subst h
    go_enter Tryz.func37, Tryz.ntmps37
    go_wp2_with fail
    refine (errors_IsN 0 0 _).mono ?_
    rintro e w1 ⟨rfl, hb⟩
    rw [show ((0 : Int) == 0) = true from rfl]
    go_wp2_with fail
    go_ret
    exact ⟨_, rfl, hb, rfl⟩
  · have h' : (c == 0) = false := by simpa using h
    simp only [h, if_false]
    have HC := Lib.hid h; clear h
    go_enter Tryz.func37, Tryz.ntmps37
    go_wp2_with fail
    refine (errors_IsN c 0 _).mono ?_
    rintro e w1 ⟨rfl, hb⟩
    rw [h']
    go_wp2_with fail
    refine (fault_At no (some c) [] _ w1 rfl).mono ?_
    rintro e w2 ⟨r, rfl, hb2, h2⟩
    go_wp2_with fail
    go_ret
    exact ⟨_, rfl, Bl.next hb hb2, h2⟩

theorem Tryz.nilBytes (w : World) : (binOp .eql 22 (.slice none 0 0) (.slice none 0 0)).run Tryz.prog w = .ok (.bool true) w := by kernel_rfl
set_option maxRecDepth 100000 in
set_option maxHeartbeats 1000000 in
theorem image_Of_nil (w : World) : Calls Tryz.prog 9 #[.slice none 0 0] w fun e w' => e = .returned (.pointer (some ⟨w.heap.size, 0, none⟩)) ∧ w' = w.alloc (.cells #[.slice none 0 0] 71) := by
  have y := Tryz.nilBytes
  go_enter Tryz.func9, Tryz.ntmps9
  go_wp2
  go_ret
  exact ⟨rfl, rfl⟩
set_option maxRecDepth 100000 in
set_option maxHeartbeats 1000000 in
theorem image_Read_nil (b : Nat) (k : Int) (w : World) (h : Blk w b [.slice none 0 0] 71) (hk : 0 ≤ k) : Calls Tryz.prog 102 #[.pointer (some ⟨b, 0, none⟩), .int .i64 k] w (Ret (.tuple #[.slice none 0 0, .int .i64 3]) w) := by
  have c0 := h.cell (i := 0) rfl
  have hk' : ¬ (k < 0) := by omega
  have y := Tryz.nilBytes
  go_enter Tryz.func102, Tryz.ntmps102
  go_wp2
  exact bodyPost_ret (v := .tuple #[.slice none 0 0, .int .i64 3]) (by simp [results, Tryz.results102, go_sem]) rfl ⟨rfl, Below.refl _ _⟩

theorem range_below {w w' : World} {b o : Nat} {cs : List Value} (h : w.rangeAt b o cs) (hb : Below w.heap.size w w') : w'.rangeAt b o cs := fun j v hj => getC hb (h j v hj)
theorem Blk.range {w : World} {b : Nat} {cs : List Value} {t : TypeId} (h : Blk w b cs t) : w.rangeAt b 0 cs := fun j v hj => by rw [Nat.zero_add]; exact h.cell hj
theorem Blk.there {w : World} {b : Nat} {cs : List Value} {t : TypeId} (h : Blk w b cs t) {n : Nat} (hn : n = cs.length) : w.there b 0 n := fun j hj => by
  rw [Nat.zero_add]
  exact ⟨by rw [h.cell (List.getElem?_eq_getElem (by omega))]; rfl, h.frozen j⟩
end Go.Proofs.YtolblnjohaooaaaGreatDoor
namespace Go.Proofs.YtolblnjohaooaaaGreatDoor
open Go.RowKit Go.Extern.Stop Go.Stop Go.Extern
set_option linter.unusedVariables false
attribute [local irreducible] wpList wpAnyH Code.wp Oper.wp Go

theorem quo_nat (n k : Nat) (hn : n < 9223372036854775808) (hk : 0 < k) : IntKind.i64.wrap (Int.tdiv (n : Int) (k : Int)) = ((n / k : Nat) : Int) := by
  rw [Int.tdiv_eq_ediv_of_nonneg (Int.natCast_nonneg _), ← Int.natCast_ediv]
  exact i64_nat (Nat.lt_of_le_of_lt (Nat.div_le_self _ _) hn)
theorem min_cast (a b : Nat) : (if (b : Int) < (a : Int) then (b : Int) else (a : Int)) = ((min a b : Nat) : Int) := by split <;> omega
/-- an image at block b: its bytes are l, in a row of its own -/
def Img (B : Nat) (w : World) (b : Nat) (p : Option Addr) (c : Nat) (l : List UInt8) : Prop := Blk w b [.slice p l.length c] 71 ∧ w.ownsRow B 5 1 (.slice p l.length c) l.length (l.map bv)
set_option maxRecDepth 100000 in
set_option maxHeartbeats 1000000 in
theorem image_Blocks (b : Nat) (p : Option Addr) (n c : Nat) (w : World) (hk : Blk w b [.slice p n c] 71) (hn : n ≤ 100000000) :
    Calls Tryz.prog 80 #[.pointer (some ⟨b, 0, none⟩)] w (Ret (.int .i64 ((n / 256 : Nat) : Int)) w) := by
 refine zin 11 Tryz.func80 ?_
 refine xb 20 0 hk ?_
 refine xq 1 (congrArg (Value.int .i64) (show (IntKind.i64.wrap (Int.tdiv (↑n : Int) 256) : Int) = (↑(n / 256) : Int) from quo_nat n 256 (by omega) (by decide))) ?_
 exact xe 4 (.int .i64 (↑(n / 256) : Int)) ⟨rfl, (Below.refl w.heap.size _)⟩
set_option maxRecDepth 100000 in
set_option maxHeartbeats 1000000 in
theorem image_Of (a : Option Addr) (c : Nat) (l : List UInt8) (w : World) (h : Bys w (.slice a l.length c) l) (hl : l.length ≤ 100000000) (hc : l.length ≤ c) :
    Calls Tryz.prog 9 #[.slice a l.length c] w (RetS (fun w' r => ∃ b p c, r = .pointer (some ⟨b, 0, none⟩) ∧ w.heap.size ≤ b ∧ Blk w' b [.slice p (min (l.length / 256) 14400 * 256) c] 71 ∧ w'.ownsRow w.heap.size 5 1 (.slice p (min (l.length / 256) 14400 * 256) c) (min (l.length / 256) 14400 * 256) ((l.take (min (l.length / 256) 14400 * 256)).map bv)) w) := by
 refine zin 15 Tryz.func9 ?_
 refine xq 9 (congrArg (Value.int .i64) (show (IntKind.i64.wrap (Int.tdiv (↑l.length : Int) 256) : Int) = (↑(l.length / 256) : Int) from quo_nat l.length 256 (by omega) (by decide))) ?_
 refine xq 0 (congrArg (Value.int .i64) (show (if (14400 : Int) < (↑(l.length / 256) : Int) then (14400 : Int) else (↑(l.length / 256) : Int) : Int) = (↑(min (l.length / 256) 14400) : Int) from min_cast (l.length / 256) 14400)) ?_
 refine xwm 7 ((↑(min (l.length / 256) 14400) : Int) * 256) (↑((min (l.length / 256) 14400) * 256) : Int) ?_
 refine xsH 0 (fun _ _ _ _ zo zx zy V => run_sliceH (k := ((min (l.length / 256) 14400) * 256)) (b := a) (n := l.length) (c := c) (i := (↑((min (l.length / 256) 14400) * 256) : Int)) (ki := .i64) zo zx zy rfl (by omega) Tryz.underlying22 (by kernel_rfl) V) ?_
 refine xc 0 (args := #[.slice a ((min (l.length / 256) 14400) * 256) c]) (clone_bytesN a (min (l.length / 256) 14400 * 256) c (l.take (min (l.length / 256) 14400 * 256)) _ (by simp; omega) ((h.take rfl _ (by omega)).below (Below.refl w.heap.size _)) (by omega)) ?_
 rintro _ W1 ⟨_, rfl, hb1, ho⟩
 have hs1 := Nat.le_refl w.heap.size
 have ho'1 := own_mono ho hs1
 unfold OwnB at ho'1
 rw [show (l.take (min (l.length / 256) 14400 * 256)).length = min (l.length / 256) 14400 * 256 by simp; omega] at ho'1
 obtain ⟨pd, cd, rfl⟩ := (own_sl ho'1).slice
 refine xa 1 [.slice pd (min (l.length / 256) 14400 * 256) cd] 71 fun b2 W2 n2 => ?_
 have hB := Bl.next hb1 n2.below
 have g2 := n2.ge hb1
 have ho'2 := own_below ho'1 n2.below
 exact xe 4 (.pointer (some ⟨b2, 0, none⟩)) ⟨_, rfl, hB, _, _, _, rfl, g2, n2.blk, ho'2⟩
set_option maxRecDepth 100000 in
set_option maxHeartbeats 1000000 in
theorem image_block (b g : Nat) (n c k : Nat) (w : World) (hk : Blk w b [.slice (some ⟨g, 0, none⟩) n c] 71) (hn : n ≤ 100000000) (hc : n ≤ c) (hkn : k < n / 256) :
    Calls Tryz.prog 60 #[.pointer (some ⟨b, 0, none⟩), .int .i64 (↑k : Int)] w (Ret (.tuple #[.slice (some ⟨g, k * 256, none⟩) 256 256, .int .i64 0]) w) := by
 refine zin 33 Tryz.func60 ?_
 refine xgk 21 [13, 14] (show (decide ((↑k : Int) < (0 : Int)) : Bool) = false from decide_eq_false (by omega)) ?_
 refine xr 2 (args := #[.pointer (some ⟨b, 0, none⟩)]) (image_Blocks b _ n c _ (hk.below (Below.refl w.heap.size _)) hn) fun W2 hb2 => ?_
 refine xk 5 (show (decide ((↑k : Int) ≥ (↑(n / 256) : Int)) : Bool) = false from decide_eq_false (by omega)) ?_
 refine xwm 6 ((↑k : Int) * 256) (↑(k * 256) : Int) ?_
 refine xwm 1 ((↑k : Int) + 1) (↑(k + 1) : Int) ?_
 refine xwm 0 ((↑(k + 1) : Int) * 256) (↑((k + 1) * 256) : Int) ?_
 have hk'1 := hk.below hb2
 refine xb 9 0 hk'1 ?_
 refine xs3 3 (fun _ _ _ _ _ _ zo zx zy zz zm V => run_slice3 (k := (k * 256)) (h := ((k + 1) * 256)) (b := g) (off := 0) (n := n) (c := c) (i := (↑(k * 256) : Int)) (ki := .i64) (j := (↑((k + 1) * 256) : Int)) (kj := .i64) (j2 := (↑((k + 1) * 256) : Int)) (kj2 := .i64) 1 (k * 256) 256 zo zx zy rfl zz rfl zm rfl (by omega) (by omega) (by omega) (by omega) Tryz.underlying22 (by kernel_rfl) V) ?_
 exact xe 5 (.tuple #[.slice (some ⟨g, (k * 256), none⟩) 256 256, .int .i64 0]) ⟨rfl, hb2⟩
/-- what is left when a row of bytes was written: nothing below B, nothing but bytes -/
def WroteB (B g n c : Nat) (l : List UInt8) (v : Value) (w : World) (e : Ending) (w' : World) : Prop :=
  e = .returned v ∧ Below B w w' ∧ Only [5] w w' ∧ Fr [g] w w' ∧ w'.ownsRow B 5 1 (.slice (some ⟨g, 0, none⟩) n c) n (l.map bv)
set_option maxRecDepth 100000 in
set_option maxHeartbeats 1000000 in
theorem image_Write (B b g : Nat) (n c k : Nat) (l : List UInt8) (a : Option Addr) (cx : Nat) (lx : List UInt8) (w : World) (hk : Blk w b [.slice (some ⟨g, 0, none⟩) n c] 71) (ho : w.ownsRow B 5 1 (.slice (some ⟨g, 0, none⟩) n c) n (l.map bv)) (hn : n ≤ 100000000) (hc : n ≤ c) (hkn : k < n / 256) (hx : Bys w (.slice a 256 cx) lx) (hlx : lx.length = 256) (hBw : B ≤ w.heap.size) :
    Calls Tryz.prog 36 #[.pointer (some ⟨b, 0, none⟩), .int .i64 (↑k : Int), .slice a 256 cx] w (WroteB B g n c (putB l (k * 256) lx) (.int .i64 0) w) := by
 replace hx : Sl w (.slice a 256 cx) 256 (lx.map bv) := by
   have := hx
   unfold Bys at this
   rwa [hlx] at this
 refine zin 24 Tryz.func36 ?_
 refine xr 9 (args := #[.pointer (some ⟨b, 0, none⟩), .int .i64 (↑k : Int)]) (image_block b g n c k _ hk hn hc hkn) fun W1 hb1 => ?_
 have ho'1 := own_below ho hb1
 have hx'1 := hx.below hb1
 have hB := Bl.nextB (Below.refl B w) hBw hb1
 refine xbi 32 (t2 := 22) fun _ _ _ _ zJ zQ zo zx zy zK => op_copy (dLen := 256) (dCap := 256) (off := (k * 256)) 256 (lx.map bv) ((putB l (k * 256) lx).map bv) zo Tryz.underlying22 (by kernel_rfl) zx zy hx'1 ho'1 (by simpa using hlx) (by omega) (by omega) (bv_one _) (Nat.le_trans hBw hB.size) (by simp [putB, hlx, List.map_take, List.map_drop]) fun W2 o2 hg2 hb2 => ?_
 refine zK _ _ ?_
 have hB'1 := hB.trans hb2
 have hO := (show Only [5] w _ from (Only.of_below hb1)).trans (Only.of_grown hg2 ho'1 (by decide))
 have hX := (show Fr [g] w _ from (Fr.of_below hb1)).trans (Fr.of_grown hg2 (by simp))
 exact xe 8 (.int .i64 0) ⟨rfl, hB'1, hO, hX, o2⟩
set_option maxRecDepth 100000 in
set_option maxHeartbeats 1000000 in
theorem block_Write (B b g : Nat) (n c k : Nat) (l : List UInt8) (kind : Int) (a : Option Addr) (ca : Nat) (li : List UInt8) (w : World) (hk : Blk w b [.slice (some ⟨g, 0, none⟩) n c] 71) (ho : w.ownsRow B 5 1 (.slice (some ⟨g, 0, none⟩) n c) n (l.map bv)) (hn : n ≤ 3686400) (hc : n ≤ c) (hkn : k < n / 256) (h1 : 1 ≤ kind) (h2 : kind ≤ 4) (hin : Bys w (.slice a li.length ca) li) (hl : li.length ≤ 244) (hBw : B ≤ w.heap.size) :
    Calls Tryz.prog 13 #[.pointer (some ⟨b, 0, none⟩), .int .i64 (↑k : Int), .int .i64 kind, .slice a li.length ca] w (WroteB B g n c (putB l (k * 256) (sealB kind k li)) .nilIface w) := by
 refine zin 28 Tryz.func13 ?_
 refine xc 10 (args := #[.int .i64 kind, .int .i64 (↑k : Int), .slice a li.length ca]) (seal_Seal kind k h1 h2 (by omega) (by omega) a ca li _ hl hin) ?_
 rintro _ W1 ⟨_, rfl, hb1, p, c2, rfl, o⟩
 have hs1 := Nat.le_refl w.heap.size
 have hk'1 := hk.below hb1
 have ho'1 := own_below ho hb1
 have o'1 := own_mono o hs1
 have hB := Bl.nextB (Below.refl B w) hBw hb1
 refine xc 19 (args := #[.pointer (some ⟨b, 0, none⟩), .int .i64 (↑k : Int), .slice p 256 c2]) (image_Write B b g n c k l p c2 (sealB kind k li) _ hk'1 ho'1 (by omega) hc hkn (bys_of (own_sl o'1) (sealB_len hl)) (sealB_len hl) (Nat.le_trans hBw hB.size)) ?_
 rintro _ W2 ⟨rfl, hb2, hO2, hX2, ho2⟩
 refine xc 8 (args := #[.int .i64 (↑k : Int), .iface 43 (.int .i64 0)]) (block_told k 0 _) ?_
 rintro _ W3 ⟨r, rfl, hb3, hr⟩
 obtain rfl : r = .nilIface := hr
 have hB'1 := Bl.nextB (hB.trans hb2) hBw hb3
 have hO := ((show Only [5] w _ from (Only.of_below hb1)).trans hO2).trans (Only.of_below hb3)
 have hX := ((show Fr [g] w _ from (Fr.of_below hb1)).trans (hX2.mono (by simp))).trans (Fr.of_below hb3)
 have ho2'1 := own_below ho2 hb3
 exact xe 4 .nilIface ⟨rfl, hB'1, hO, hX, ho2'1⟩
end Go.Proofs.YtolblnjohaooaaaGreatDoor
namespace Go.Proofs.YtolblnjohaooaaaGreatDoor
open Go.RowKit Go.Extern.Stop Go.Stop Go.Extern
set_option linter.unusedVariables false
attribute [local irreducible] wpList wpAnyH Code.wp Oper.wp Go

/-- j numbers from f on -/
def rngJ (f j : Nat) : List Int := (List.range j).map fun i => ((f + i : Nat) : Int)
theorem rngJ_succ (f j : Nat) : rngJ f (j + 1) = rngJ f j ++ [((f + j : Nat) : Int)] := by simp [rngJ, List.range_succ]
theorem rngJ_get {f N k : Nat} (h : k < N) : (rngJ f N).getD k 0 = ((f + k : Nat) : Int) := by simp [rngJ, List.getD, List.getElem?_range h]
theorem rngJ_len (f j : Nat) : (rngJ f j).length = j := by simp [rngJ]
/-- what never changes of it -/
structure AlC (B ba n c ca f N : Nat) : Prop where
  hn : n ≤ 3686400
  hc : n ≤ c
  hca : N ≤ ca
  hf : f + N ≤ n / 256
  hB : B ≤ ba
theorem IntsN.elem {w : World} {b : Option Addr} {n c : Nat} {l : List Int} (h : Sl w (.slice b n c) n (l.map (Value.int .i64))) (hl : l.length = n) {k : Nat} (hk : k < n) : b.isSome = true ∧ w.cell? (elemAddr b (k * 1)) = some (.int .i64 (l.getD k 0)) := by
  subst hl; exact Ints.elem h hk
theorem Only.mono {T T' : List TypeId} {w w' : World} (h : Only T w w') (hT : ∀ t, T'.contains t = false → T.contains t = false) : Only T' w w' := fun k cs t fr hk ht => h k cs t fr hk (hT t ht)
end Go.Proofs.YtolblnjohaooaaaGreatDoor
namespace Go.Proofs.YtolblnjohaooaaaGreatDoor
open Go.RowKit Go.Extern.Stop Go.Stop Go.Extern
set_option linter.unusedVariables false
attribute [local irreducible] wpList wpAnyH Code.wp Oper.wp Go

set_option maxRecDepth 100000 in
set_option maxHeartbeats 1000000 in
theorem node_Width1l (w : World) :
    Calls Tryz.prog 31 #[.int .i64 1, .bool true] w (Ret (.int .i64 4) w) := by
 refine zin 31 Tryz.func31 ?_
 exact xe 94 (.int .i64 4) ⟨rfl, (Below.refl w.heap.size _)⟩
set_option maxRecDepth 100000 in
set_option maxHeartbeats 1000000 in
theorem node_Max1l (w : World) :
    Calls Tryz.prog 32 #[.int .i64 1, .bool true] w (Ret (.int .i64 18) w) := by
 refine zin 16 Tryz.func32 ?_
 refine xr 9 (args := #[.int .i64 1, .bool true]) (node_Width1l _) fun W1 hb1 => ?_
 exact xe 24 (.int .i64 18) ⟨rfl, hb1⟩
set_option maxRecDepth 100000 in
set_option maxHeartbeats 1000000 in
theorem node_Width1i (w : World) :
    Calls Tryz.prog 31 #[.int .i64 1, .bool false] w (Ret (.int .i64 4) w) := by
 refine zin 31 Tryz.func31 ?_
 exact xe 41 (.int .i64 4) ⟨rfl, (Below.refl w.heap.size _)⟩
set_option maxRecDepth 100000 in
set_option maxHeartbeats 1000000 in
theorem node_Max1i (w : World) :
    Calls Tryz.prog 32 #[.int .i64 1, .bool false] w (Ret (.int .i64 18) w) := by
 refine zin 16 Tryz.func32 ?_
 refine xr 9 (args := #[.int .i64 1, .bool false]) (node_Width1i _) fun W1 hb1 => ?_
 exact xe 24 (.int .i64 18) ⟨rfl, hb1⟩
set_option maxRecDepth 100000 in
set_option maxHeartbeats 1000000 in
theorem node_Width2l (w : World) :
    Calls Tryz.prog 31 #[.int .i64 2, .bool true] w (Ret (.int .i64 8) w) := by
 refine zin 31 Tryz.func31 ?_
 exact xe 101 (.int .i64 8) ⟨rfl, (Below.refl w.heap.size _)⟩
set_option maxRecDepth 100000 in
set_option maxHeartbeats 1000000 in
theorem node_Max2l (w : World) :
    Calls Tryz.prog 32 #[.int .i64 2, .bool true] w (Ret (.int .i64 12) w) := by
 refine zin 16 Tryz.func32 ?_
 refine xr 9 (args := #[.int .i64 2, .bool true]) (node_Width2l _) fun W1 hb1 => ?_
 exact xe 24 (.int .i64 12) ⟨rfl, hb1⟩
set_option maxRecDepth 100000 in
set_option maxHeartbeats 1000000 in
theorem node_Width2i (w : World) :
    Calls Tryz.prog 31 #[.int .i64 2, .bool false] w (Ret (.int .i64 4) w) := by
 refine zin 31 Tryz.func31 ?_
 exact xe 41 (.int .i64 4) ⟨rfl, (Below.refl w.heap.size _)⟩
set_option maxRecDepth 100000 in
set_option maxHeartbeats 1000000 in
theorem node_Max2i (w : World) :
    Calls Tryz.prog 32 #[.int .i64 2, .bool false] w (Ret (.int .i64 18) w) := by
 refine zin 16 Tryz.func32 ?_
 refine xr 9 (args := #[.int .i64 2, .bool false]) (node_Width2i _) fun W1 hb1 => ?_
 exact xe 24 (.int .i64 18) ⟨rfl, hb1⟩
set_option maxRecDepth 100000 in
set_option maxHeartbeats 1000000 in
theorem node_Width3l (w : World) :
    Calls Tryz.prog 31 #[.int .i64 3, .bool true] w (Ret (.int .i64 24) w) := by
 refine zin 31 Tryz.func31 ?_
 exact xe 93 (.int .i64 24) ⟨rfl, (Below.refl w.heap.size _)⟩
set_option maxRecDepth 100000 in
set_option maxHeartbeats 1000000 in
theorem node_Max3l (w : World) :
    Calls Tryz.prog 32 #[.int .i64 3, .bool true] w (Ret (.int .i64 6) w) := by
 refine zin 16 Tryz.func32 ?_
 refine xr 9 (args := #[.int .i64 3, .bool true]) (node_Width3l _) fun W1 hb1 => ?_
 exact xe 24 (.int .i64 6) ⟨rfl, hb1⟩
set_option maxRecDepth 100000 in
set_option maxHeartbeats 1000000 in
theorem node_Width3i (w : World) :
    Calls Tryz.prog 31 #[.int .i64 3, .bool false] w (Ret (.int .i64 4) w) := by
 refine zin 31 Tryz.func31 ?_
 exact xe 41 (.int .i64 4) ⟨rfl, (Below.refl w.heap.size _)⟩
set_option maxRecDepth 100000 in
set_option maxHeartbeats 1000000 in
theorem node_Max3i (w : World) :
    Calls Tryz.prog 32 #[.int .i64 3, .bool false] w (Ret (.int .i64 18) w) := by
 refine zin 16 Tryz.func32 ?_
 refine xr 9 (args := #[.int .i64 3, .bool false]) (node_Width3i _) fun W1 hb1 => ?_
 exact xe 24 (.int .i64 18) ⟨rfl, hb1⟩
set_option maxRecDepth 100000 in
set_option maxHeartbeats 1000000 in
theorem node_Width4l (w : World) :
    Calls Tryz.prog 31 #[.int .i64 4, .bool true] w (Ret (.int .i64 16) w) := by
 refine zin 31 Tryz.func31 ?_
 exact xe 98 (.int .i64 16) ⟨rfl, (Below.refl w.heap.size _)⟩
set_option maxRecDepth 100000 in
set_option maxHeartbeats 1000000 in
theorem node_Max4l (w : World) :
    Calls Tryz.prog 32 #[.int .i64 4, .bool true] w (Ret (.int .i64 9) w) := by
 refine zin 16 Tryz.func32 ?_
 refine xr 9 (args := #[.int .i64 4, .bool true]) (node_Width4l _) fun W1 hb1 => ?_
 exact xe 24 (.int .i64 9) ⟨rfl, hb1⟩
set_option maxRecDepth 100000 in
set_option maxHeartbeats 1000000 in
theorem node_Width4i (w : World) :
    Calls Tryz.prog 31 #[.int .i64 4, .bool false] w (Ret (.int .i64 4) w) := by
 refine zin 31 Tryz.func31 ?_
 exact xe 41 (.int .i64 4) ⟨rfl, (Below.refl w.heap.size _)⟩
set_option maxRecDepth 100000 in
set_option maxHeartbeats 1000000 in
theorem node_Max4i (w : World) :
    Calls Tryz.prog 32 #[.int .i64 4, .bool false] w (Ret (.int .i64 18) w) := by
 refine zin 16 Tryz.func32 ?_
 refine xr 9 (args := #[.int .i64 4, .bool false]) (node_Width4i _) fun W1 hb1 => ?_
 exact xe 24 (.int .i64 18) ⟨rfl, hb1⟩
set_option maxRecDepth 100000 in
set_option maxHeartbeats 1000000 in
theorem node_Width5l (w : World) :
    Calls Tryz.prog 31 #[.int .i64 5, .bool true] w (Ret (.int .i64 4) w) := by
 refine zin 31 Tryz.func31 ?_
 exact xe 94 (.int .i64 4) ⟨rfl, (Below.refl w.heap.size _)⟩
set_option maxRecDepth 100000 in
set_option maxHeartbeats 1000000 in
theorem node_Max5l (w : World) :
    Calls Tryz.prog 32 #[.int .i64 5, .bool true] w (Ret (.int .i64 18) w) := by
 refine zin 16 Tryz.func32 ?_
 refine xr 9 (args := #[.int .i64 5, .bool true]) (node_Width5l _) fun W1 hb1 => ?_
 exact xe 24 (.int .i64 18) ⟨rfl, hb1⟩
set_option maxRecDepth 100000 in
set_option maxHeartbeats 1000000 in
theorem node_Width5i (w : World) :
    Calls Tryz.prog 31 #[.int .i64 5, .bool false] w (Ret (.int .i64 4) w) := by
 refine zin 31 Tryz.func31 ?_
 exact xe 41 (.int .i64 4) ⟨rfl, (Below.refl w.heap.size _)⟩
set_option maxRecDepth 100000 in
set_option maxHeartbeats 1000000 in
theorem node_Max5i (w : World) :
    Calls Tryz.prog 32 #[.int .i64 5, .bool false] w (Ret (.int .i64 18) w) := by
 refine zin 16 Tryz.func32 ?_
 refine xr 9 (args := #[.int .i64 5, .bool false]) (node_Width5i _) fun W1 hb1 => ?_
 exact xe 24 (.int .i64 18) ⟨rfl, hb1⟩
/-- the bytes of a value -/
def widN (t : Int) (leaf : Bool) : Nat := if leaf = false then 4 else if t = 2 then 8 else if t = 3 then 24 else if t = 4 then 16 else 4
/-- the entries of a full node -/
def maxN (t : Int) (leaf : Bool) : Nat := if leaf = false then 18 else if t = 2 then 12 else if t = 3 then 6 else if t = 4 then 9 else 18
theorem node_Width (t : Int) (leaf : Bool) (h1 : 1 ≤ t) (h2 : t ≤ 5) (w : World) : Calls Tryz.prog 31 #[.int .i64 t, .bool leaf] w (Ret (.int .i64 (widN t leaf : Int)) w) := by
  obtain rfl | rfl | rfl | rfl | rfl : t = 1 ∨ t = 2 ∨ t = 3 ∨ t = 4 ∨ t = 5 := by omega
  all_goals cases leaf
  · exact node_Width1i w
  · exact node_Width1l w
  · exact node_Width2i w
  · exact node_Width2l w
  · exact node_Width3i w
  · exact node_Width3l w
  · exact node_Width4i w
  · exact node_Width4l w
  · exact node_Width5i w
  · exact node_Width5l w
theorem node_Max (t : Int) (leaf : Bool) (h1 : 1 ≤ t) (h2 : t ≤ 5) (w : World) : Calls Tryz.prog 32 #[.int .i64 t, .bool leaf] w (Ret (.int .i64 (maxN t leaf : Int)) w) := by
  obtain rfl | rfl | rfl | rfl | rfl : t = 1 ∨ t = 2 ∨ t = 3 ∨ t = 4 ∨ t = 5 := by omega
  all_goals cases leaf
  · exact node_Max1i w
  · exact node_Max1l w
  · exact node_Max2i w
  · exact node_Max2l w
  · exact node_Max3i w
  · exact node_Max3l w
  · exact node_Max4i w
  · exact node_Max4l w
  · exact node_Max5i w
  · exact node_Max5l w
theorem maxN_pos (t : Int) (leaf : Bool) : 1 ≤ maxN t leaf ∧ maxN t leaf ≤ 18 := by unfold maxN; repeat' split
                                                                                    all_goals decide
theorem run_quo {P : Program} {a : Act} {o : Oper} {t : TypeId} {x y : Operand} {t2 : TypeId} {p q r : Int} {k : IntKind} (ho : o.op = .binOp .quo t x y t2) (hx : a.eval x = .int k p) (hy : a.eval y = .int k q) (hq : q ≠ 0) (hr : k.wrap (Int.tdiv p q) = r) (w : World) :
    (execOp a.eval o).run P w = .ok (.value (.int k r)) w := by
  subst hr
  have hb : (binOp .quo t (.int k p) (.int k q)).run P w = .ok (.int k (k.wrap (p.tdiv q))) w := by
    simp [binOp, Op.intDiv, hq]
  have hg : (eqGuard .quo t x y (.int k p) (.int k q)).run P w = .ok () w := rfl
  simp only [execOp, ho, hx, hy, Sem.run_bind, hg, Result.andThen_ok, hb]
  rfl
/-- so many nodes of m entries each hold n entries; one at least -/
def ovN (n m : Nat) : Nat := max 1 ((n + m - 1) / m)
theorem max_cast (a b : Nat) : (if (b : Int) > (a : Int) then (b : Int) else (a : Int)) = ((max a b : Nat) : Int) := by split <;> omega
theorem ovN_pos (n m : Nat) : 1 ≤ ovN n m := by unfold ovN; omega
theorem ovN_le (n m : Nat) (hm : 1 ≤ m) : ovN n m ≤ n + 1 := by
  have : (n + m - 1) / m ≤ n := by
    rw [Nat.div_le_iff_le_mul_add_pred (by omega)]
    have := Nat.le_mul_of_pos_left n hm
    omega
  unfold ovN; omega
theorem ov18 {x : Nat} (h : 2 ≤ x) : ovN x 18 ≤ x / 2 := by unfold ovN; omega
def lenOf : Value → Nat
  | .slice _ n _ => n
  | _ => 0
def nv (n : Nat) : Value := .int .i64 (n : Int)
/-- the levels of a tree from x nodes on -/
def levs (x : Nat) : List Nat := if h : x ≤ 1 then [x] else x :: levs (ovN x 18)
termination_by x
decreasing_by have := ov18 (x := x) (by omega); omega
theorem levs_one {x : Nat} (h : x ≤ 1) : levs x = [x] := by rw [levs]; simp [h]
theorem levs_more {x : Nat} (h : ¬ x ≤ 1) : levs x = x :: levs (ovN x 18) := by rw [levs]; simp [h]
theorem levs_sum {x : Nat} (h : 1 ≤ x) : (levs x).sum ≤ 2 * x := by
  induction x using Nat.strongRecOn with
  | _ x ih =>
    by_cases h1 : x ≤ 1
    · rw [levs_one h1]; simp; omega
    · rw [levs_more h1, List.sum_cons]
      have h2 := ov18 (x := x) (by omega)
      have := ih (ovN x 18) (by omega) (ovN_pos _ _)
      omega
theorem levs_len {x : Nat} (h : 1 ≤ x) : (levs x).length ≤ x := by
  induction x using Nat.strongRecOn with
  | _ x ih =>
    by_cases h1 : x ≤ 1
    · rw [levs_one h1]; simpa using h
    · rw [levs_more h1, List.length_cons]
      have h2 := ov18 (x := x) (by omega)
      have := ih (ovN x 18) (by omega) (ovN_pos _ _)
      omega
/-- a slice of numbers -/
theorem nv_elem {w : World} {b : Option Addr} {n c : Nat} {l : List Nat} (h : Sl w (.slice b n c) n (l.map nv)) (hl : l.length = n) {k : Nat} (hk : k < n) : b.isSome = true ∧ w.cell? (elemAddr b (k * 1)) = some (.int .i64 ((l.getD k 0 : Nat) : Int)) := by
  have e : l.map nv = (l.map fun x : Nat => (x : Int)).map (Value.int .i64) := by simp [nv]
  rw [e] at h
  have := IntsN.elem h (by simpa using hl) hk
  rw [show (l.map fun x : Nat => (x : Int)).getD k 0 = ((l.getD k 0 : Nat) : Int) by simp [List.getD, List.getElem?_eq_getElem (show k < l.length by omega)]] at this
  exact this
theorem getD_last {xs : List Nat} {x j : Nat} (h : xs.length = j) : (xs ++ [x]).getD j 0 = x := by subst h; simp [List.getD]
theorem take_sum {L : List Nat} {k : Nat} (h : k < L.length) : (L.take (k + 1)).sum = (L.take k).sum + L.getD k 0 := by
  rw [List.take_add_one, List.sum_append]; simp [List.getD, List.getElem?_eq_getElem h]
theorem take_le {L : List Nat} (k : Nat) : (L.take k).sum ≤ L.sum := by
  conv => rhs; rw [← List.take_append_drop k L, List.sum_append]
  omega
/-- the levels of a tree of n entries -/
def levL (t : Int) (n : Nat) : List Nat := levs (ovN n (maxN t true))
/-- its nodes -/
def nodN (t : Int) (n : Nat) : Nat := (levL t n).sum
theorem levL_len (t : Int) (n : Nat) : (levL t n).length ≤ n + 1 := by
  have := levs_len (ovN_pos n (maxN t true)); have := ovN_le n (maxN t true) (maxN_pos t true).1; unfold levL; omega
theorem nodN_le (t : Int) (n : Nat) : nodN t n ≤ 2 * n + 2 := by
  have := levs_sum (ovN_pos n (maxN t true)); have := ovN_le n (maxN t true) (maxN_pos t true).1; unfold nodN levL; omega
/-- node i's entries, when n entries are laid into nodes of m -/
def sizN (n m i : Nat) : Nat := min m (n - i * m)
theorem siz_le {n m i : Nat} (hm : 1 ≤ m) (h : i < ovN n m) : i * m ≤ n := by
  unfold ovN at h
  rcases Nat.eq_zero_or_pos i with rfl | hi
  · omega
  · have h1 : i + 1 ≤ (n + m - 1) / m := by omega
    have h2 := (Nat.le_div_iff_mul_le (by omega)).1 h1
    rw [Nat.add_mul] at h2
    omega
def sizK (n m k : Nat) : List Value := (List.range (ovN n m)).map fun i => .int .i64 (if i < k then (sizN n m i : Int) else 0)
def sizL (n m : Nat) : List Nat := (List.range (ovN n m)).map (sizN n m)
theorem sizK_zero (n m : Nat) : zeros (Value.int .i64 0).cells.toList (ovN n m) = sizK n m 0 := by
  rw [show (Value.int .i64 0).cells.toList = [Value.int .i64 0] from rfl, zeros, sizK]
  simp [List.map_const']
theorem sizK_all (n m : Nat) : sizK n m (ovN n m) = (sizL n m).map nv := by
  unfold sizK sizL nv
  rw [List.map_map]
  apply List.map_congr_left
  intro i hi
  rw [List.mem_range] at hi
  simp [hi]
theorem sizK_set {n m k : Nat} (h : k < ovN n m) : (sizK n m k).set k (.int .i64 (sizN n m k : Int)) = sizK n m (k + 1) := by
  apply List.ext_getElem?
  intro i
  by_cases hi : i < ovN n m
  · by_cases e : k = i
    · subst e
      rw [List.getElem?_set_self (by simpa [sizK] using h)]
      simp [sizK, List.getElem?_range h]
    · rw [List.getElem?_set_ne e]
      simp only [sizK, List.getElem?_map, List.getElem?_range hi, Option.map_some]
      by_cases e2 : i < k
      · simp [e2, show i < k + 1 by omega]
      · simp [e2, show ¬ i < k + 1 by omega]
  · rw [List.getElem?_eq_none (by simp [sizK]; omega), List.getElem?_eq_none (by simp [sizK]; omega)]
theorem sizL_len (n m : Nat) : (sizL n m).length = ovN n m := by simp [sizL]
end Go.Proofs.YtolblnjohaooaaaGreatDoor
namespace Go.Proofs.YtolblnjohaooaaaGreatDoor
open Go.RowKit Go.Extern.Stop Go.Stop Go.Extern
set_option linter.unusedVariables false
attribute [local irreducible] wpList wpAnyH Code.wp Oper.wp Go

/-- the number of w bytes from k on, the lowest first -/
def rawN (l : List UInt8) : Nat → Nat → Nat
  | _, 0 => 0
  | k, w + 1 => (l.getD k 0).toNat + 256 * rawN l (k + 1) w
theorem rawN_lt (l : List UInt8) : ∀ (w k : Nat), rawN l k w < 256 ^ w
  | 0, k => by simp [rawN]
  | w + 1, k => by
    have := rawN_lt l w (k + 1)
    have h := (l.getD k 0).toNat_lt
    rw [rawN, Nat.pow_succ]; omega
theorem rawN_lt8 (l : List UInt8) (k w : Nat) (hw : w ≤ 8) : rawN l k w < 18446744073709551616 := Nat.lt_of_lt_of_le (rawN_lt l w k) (by rw [show (18446744073709551616 : Nat) = 256 ^ 8 from rfl]; exact Nat.pow_le_pow_right (by decide) hw)
theorem rawN_lt7 (l : List UInt8) (k w : Nat) (hw : w ≤ 7) : rawN l k w < 72057594037927936 := Nat.lt_of_lt_of_le (rawN_lt l w k) (by rw [show (72057594037927936 : Nat) = 256 ^ 7 from rfl]; exact Nat.pow_le_pow_right (by decide) hw)
theorem rawN_lt4 (l : List UInt8) (k w : Nat) (hw : w ≤ 4) : rawN l k w < 4294967296 := Nat.lt_of_lt_of_le (rawN_lt l w k) (by rw [show (4294967296 : Nat) = 256 ^ 4 from rfl]; exact Nat.pow_le_pow_right (by decide) hw)
theorem u64_step {n b : Nat} (hn : n < 72057594037927936) (hb : b < 256) : IntKind.u64.wrap (↑(BitVec.ofInt 64 (IntKind.u64.wrap ((n : Int) * 2 ^ 8)) ||| BitVec.ofInt 64 (b : Int)).toNat : Int) = ((b + 256 * n : Nat) : Int) := by
  have h1 : IntKind.u64.wrap ((n : Int) * 2 ^ 8) = ((n * 2 ^ 8 : Nat) : Int) := by
    rw [show (n : Int) * 2 ^ 8 = ((n * 2 ^ 8 : Nat) : Int) by omega]; exact IntWalk.u64_in _ (by constructor <;> omega)
  rw [h1, BitVec.ofInt_natCast, BitVec.ofInt_natCast, BitVec.toNat_or, BitVec.toNat_ofNat, BitVec.toNat_ofNat, Nat.mod_eq_of_lt (by omega), Nat.mod_eq_of_lt (by omega)]
  rw [← Nat.shiftLeft_eq, ← Nat.shiftLeft_add_eq_or_of_lt (by exact hb : b < 2 ^ 8), Nat.shiftLeft_eq, IntWalk.u64_in _ (by constructor <;> omega)]
  congr 1; omega
theorem u64_nat {n : Nat} (h : n < 18446744073709551616) : IntKind.u64.wrap (n : Int) = (n : Int) := IntWalk.u64_in _ (by constructor <;> omega)
theorem there_ok (a : Option Addr) (m c k w : Nat) (hw : w = 1 ∨ w = 2 ∨ w = 4 ∨ w = 8) (hk : k + w ≤ m) (hm : m ≤ 100000000) (W : World) :
    Calls Tryz.prog 77 #[.slice a m c, .int .i64 (↑k : Int), .int .i64 (↑w : Int)] W (Ret (.int .i64 0) W) := by
  rcases hw with rfl | rfl | rfl | rfl
  · exact there_1 a m c k hk hm W
  · exact there_2 a m c k hk hm W
  · exact there_4 a m c k hk hm W
  · exact there_8 a m c k hk hm W
set_option maxRecDepth 100000 in
set_option maxHeartbeats 2000000 in
theorem Get_ok (a : Option Addr) (c k w : Nat) (l : List UInt8) (W : World) (hw : w = 1 ∨ w = 2 ∨ w = 4 ∨ w = 8) (hk : k + w ≤ l.length) (hl : l.length ≤ 100000000) (h : Bys W (.slice a l.length c) l) (hq : rawN l k w < 9223372036854775808) :
    Calls Tryz.prog 106 #[.slice a l.length c, .int .i64 (↑k : Int), .int .i64 (↑w : Int)] W (Ret (.tuple #[.int .i64 (rawN l k w : Int), .int .i64 0]) W) := by
 refine zin 38 Tryz.func106 ?_
 refine xr 12 (args := #[.slice a l.length c, .int .i64 (↑k : Int), .int .i64 (↑w : Int)]) (there_ok a l.length c k w hw hk hl _) fun W1 hb1 => ?_
 refine xw 21 ((↑w : Int) - 1) ?_
 refine zl 4 38 (fun zm zkv V => ∃ (j r : Nat), zkv = [(0, .slice a l.length c), (1, .int .i64 (↑k : Int)), (6, .int .i64 0), (7, .int .i64 0), (9, .int .u64 (↑(rawN l (k + j) r) : Int)), (10, .int .i64 ((↑j : Int) - 1))] ∧ zm = (((↑j : Int) - 1) + 1).toNat ∧ Below W.heap.size W V ∧ j + r = w) ⟨w, 0, rfl, rfl, hb1, by omega⟩ ?_
 rintro _ _ W2 ⟨j, r, rfl, rfl, hB_2, hjr⟩ J2 hJ2 r2
 refine xid 7 ((↑j : Int) - 1 ≥ (0 : Int)) (fun hc3 => ?_) (fun hc3 => ?_)
 · refine xq 10 (congrArg (Value.int .i64) (show IntKind.i64.wrap ((↑k : Int) + ((↑j : Int) - 1)) = (↑(k + (j - 1)) : Int) from (show IntKind.i64.wrap ((↑k : Int) + ((↑j : Int) - 1)) = ((↑k : Int) + ((↑j : Int) - 1)) from by first | exact IntWalk.i64_in _ (by omega) | (simp only [IntKind.wrap]; omega)).trans (by omega))) ?_
   refine xx 0 _ l.length (k + (j - 1)) 1 (Bys.elem h (k := (k + (j - 1))) (by omega)).1 ?_
   refine xl 0 ((Bys.elem (h.below hB_2) (k := (k + (j - 1))) (by omega)).2) ?_
   refine xq 0 (congrArg (Value.int .u64) (show (IntKind.u64.wrap (↑(l.getD (k + (j - 1)) 0).toNat : Int) : Int) = (↑(l.getD (k + (j - 1)) 0).toNat : Int) from u64_nat (by have := (l.getD (k + (j - 1)) 0).toNat_lt; omega))) ?_
   refine xq 0 (congrArg (Value.int .u64) (show (IntKind.u64.wrap (↑(BitVec.ofInt 64 (IntKind.u64.wrap ((↑(rawN l (k + j) r) : Int) * 2 ^ 8)) ||| BitVec.ofInt 64 (↑(l.getD (k + (j - 1)) 0).toNat : Int)).toNat : Int) : Int) = (↑(rawN l (k + (j - 1)) (r + 1)) : Int) from (u64_step (rawN_lt7 l (k + j) r (by omega)) (l.getD (k + (j - 1)) 0).toNat_lt).trans (congrArg (fun x : Nat => (x : Int)) (by rw [rawN, show k + (j - 1) + 1 = k + j by omega])))) ?_
   refine xq 6 (congrArg (Value.int .i64) (show IntKind.i64.wrap ((↑j : Int) - 1 - 1) = ((↑(j - 1 : Nat) : Int) - 1) from (show IntKind.i64.wrap ((↑j : Int) - 1 - 1) = ((↑j : Int) - 1 - 1) from by first | exact IntWalk.i64_in _ (by omega) | (simp only [IntKind.wrap]; omega)).trans (by omega))) ?_
   exact ze 2 (hJ2 _ _ _ ⟨j - 1, r + 1, rfl, rfl, hB_2, by omega⟩ (by omega))
 refine xk 12 (show (decide ((↑(rawN l (k + j) r) : Int) ≥ (9223372036854775808 : Int)) : Bool) = false from by rw [(show rawN l (k + j) r = rawN l k w from by rw [show j = 0 by omega, show r = w by omega]; rfl)]; exact decide_eq_false (by omega)) ?_
 refine xq 5 (congrArg (Value.int .i64) (show (IntKind.i64.wrap (↑(rawN l (k + j) r) : Int) : Int) = (↑(rawN l k w) : Int) from by rw [(show rawN l (k + j) r = rawN l k w from by rw [show j = 0 by omega, show r = w by omega]; rfl)]; exact i64_nat hq)) ?_
 exact xe 5 (.tuple #[.int .i64 (↑(rawN l k w) : Int), .int .i64 0]) ⟨rfl, hB_2⟩
set_option maxRecDepth 100000 in
set_option maxHeartbeats 2000000 in
theorem Get_big (a : Option Addr) (c k w : Nat) (l : List UInt8) (W : World) (hw : w = 1 ∨ w = 2 ∨ w = 4 ∨ w = 8) (hk : k + w ≤ l.length) (hl : l.length ≤ 100000000) (h : Bys W (.slice a l.length c) l) (hq : ¬ rawN l k w < 9223372036854775808) :
    Calls Tryz.prog 106 #[.slice a l.length c, .int .i64 (↑k : Int), .int .i64 (↑w : Int)] W (Ret (.tuple #[.int .i64 0, .int .i64 2]) W) := by
 refine zin 38 Tryz.func106 ?_
 refine xr 12 (args := #[.slice a l.length c, .int .i64 (↑k : Int), .int .i64 (↑w : Int)]) (there_ok a l.length c k w hw hk hl _) fun W1 hb1 => ?_
 refine xw 21 ((↑w : Int) - 1) ?_
 refine zl 4 38 (fun zm zkv V => ∃ (j r : Nat), zkv = [(0, .slice a l.length c), (1, .int .i64 (↑k : Int)), (6, .int .i64 0), (7, .int .i64 0), (9, .int .u64 (↑(rawN l (k + j) r) : Int)), (10, .int .i64 ((↑j : Int) - 1))] ∧ zm = (((↑j : Int) - 1) + 1).toNat ∧ Below W.heap.size W V ∧ j + r = w) ⟨w, 0, rfl, rfl, hb1, by omega⟩ ?_
 rintro _ _ W2 ⟨j, r, rfl, rfl, hB_2, hjr⟩ J2 hJ2 r2
 refine xid 7 ((↑j : Int) - 1 ≥ (0 : Int)) (fun hc3 => ?_) (fun hc3 => ?_)
 · refine xq 10 (congrArg (Value.int .i64) (show IntKind.i64.wrap ((↑k : Int) + ((↑j : Int) - 1)) = (↑(k + (j - 1)) : Int) from (show IntKind.i64.wrap ((↑k : Int) + ((↑j : Int) - 1)) = ((↑k : Int) + ((↑j : Int) - 1)) from by first | exact IntWalk.i64_in _ (by omega) | (simp only [IntKind.wrap]; omega)).trans (by omega))) ?_
   refine xx 0 _ l.length (k + (j - 1)) 1 (Bys.elem h (k := (k + (j - 1))) (by omega)).1 ?_
   refine xl 0 ((Bys.elem (h.below hB_2) (k := (k + (j - 1))) (by omega)).2) ?_
   refine xq 0 (congrArg (Value.int .u64) (show (IntKind.u64.wrap (↑(l.getD (k + (j - 1)) 0).toNat : Int) : Int) = (↑(l.getD (k + (j - 1)) 0).toNat : Int) from u64_nat (by have := (l.getD (k + (j - 1)) 0).toNat_lt; omega))) ?_
   refine xq 0 (congrArg (Value.int .u64) (show (IntKind.u64.wrap (↑(BitVec.ofInt 64 (IntKind.u64.wrap ((↑(rawN l (k + j) r) : Int) * 2 ^ 8)) ||| BitVec.ofInt 64 (↑(l.getD (k + (j - 1)) 0).toNat : Int)).toNat : Int) : Int) = (↑(rawN l (k + (j - 1)) (r + 1)) : Int) from (u64_step (rawN_lt7 l (k + j) r (by omega)) (l.getD (k + (j - 1)) 0).toNat_lt).trans (congrArg (fun x : Nat => (x : Int)) (by rw [rawN, show k + (j - 1) + 1 = k + j by omega])))) ?_
   refine xq 6 (congrArg (Value.int .i64) (show IntKind.i64.wrap ((↑j : Int) - 1 - 1) = ((↑(j - 1 : Nat) : Int) - 1) from (show IntKind.i64.wrap ((↑j : Int) - 1 - 1) = ((↑j : Int) - 1 - 1) from by first | exact IntWalk.i64_in _ (by omega) | (simp only [IntKind.wrap]; omega)).trans (by omega))) ?_
   exact ze 2 (hJ2 _ _ _ ⟨j - 1, r + 1, rfl, rfl, hB_2, by omega⟩ (by omega))
 refine xk 12 (show (decide ((↑(rawN l (k + j) r) : Int) ≥ (9223372036854775808 : Int)) : Bool) = true from by rw [(show rawN l (k + j) r = rawN l k w from by rw [show j = 0 by omega, show r = w by omega]; rfl)]; exact decide_eq_true (by omega)) ?_
 exact xe 8 (.tuple #[.int .i64 0, .int .i64 2]) ⟨rfl, hB_2⟩
/-- the numbers of these widths, one behind the other, from a place on -/
def unpL (l : List UInt8) : Nat → List Nat → List Nat
  | _, [] => []
  | k, w :: r => rawN l k w :: unpL l (k + w) r
theorem unpL_len (l : List UInt8) : ∀ (ws : List Nat) (k : Nat), (unpL l k ws).length = ws.length
  | [], k => rfl
  | w :: r, k => by simp [unpL, unpL_len l r]
theorem unpL_snoc (l : List UInt8) (w : Nat) : ∀ (ws : List Nat) (k : Nat), unpL l k (ws ++ [w]) = unpL l k ws ++ [rawN l (k + ws.sum) w]
  | [], k => by simp [unpL]
  | x :: r, k => by simp [unpL, unpL_snoc l w r, Nat.add_assoc]
theorem unpL_get (l : List UInt8) : ∀ (ws : List Nat) (k i : Nat), i < ws.length → (unpL l k ws).getD i 0 = rawN l (k + (ws.take i).sum) (ws.getD i 0)
  | [], k, i, h => by simp at h
  | w :: r, k, 0, h => by simp [unpL]
  | w :: r, k, i + 1, h => by
    have := unpL_get l r (k + w) i (by simpa using h)
    simp only [List.getD_eq_getElem?_getD] at this ⊢
    simp [unpL, this, Nat.add_assoc]
theorem take_snoc {ws : List Nat} {i : Nat} (h : i < ws.length) : ws.take (i + 1) = ws.take i ++ [ws.getD i 0] := by
  rw [List.take_succ_eq_append_getElem h]; simp [List.getD, h]
theorem take_sum_le {ws : List Nat} {i : Nat} (h : i < ws.length) : (ws.take i).sum + ws.getD i 0 ≤ ws.sum := by
  have h1 := take_sum h; have h2 := take_le (L := ws) (i + 1); omega
def getV (l : List UInt8) (k w : Nat) : Int := if rawN l k w < 9223372036854775808 then (rawN l k w : Int) else 0
def getE (l : List UInt8) (k w : Nat) : Int := if rawN l k w < 9223372036854775808 then 0 else 2
theorem getE_zero {l : List UInt8} {k w : Nat} (h : getE l k w = 0) : rawN l k w < 9223372036854775808 := by unfold getE at h; split at h; assumption; cases h
theorem getE_two {l : List UInt8} {k w : Nat} (h : getE l k w ≠ 0) : ¬ rawN l k w < 9223372036854775808 ∧ getE l k w = 2 := by unfold getE at h ⊢; split at h; exact absurd rfl h; rename_i h2; exact ⟨h2, if_neg h2⟩
theorem getE_ok {l : List UInt8} {k w : Nat} (h : rawN l k w < 9223372036854775808) : getE l k w = 0 := if_pos h
theorem getV_ok {l : List UInt8} {k w : Nat} (h : rawN l k w < 9223372036854775808) : getV l k w = (rawN l k w : Int) := if_pos h
theorem Get_gen (a : Option Addr) (c k w : Nat) (l : List UInt8) (W : World) (hw : w = 1 ∨ w = 2 ∨ w = 4 ∨ w = 8) (hk : k + w ≤ l.length) (hl : l.length ≤ 100000000) (h : Bys W (.slice a l.length c) l) :
    Calls Tryz.prog 106 #[.slice a l.length c, .int .i64 (↑k : Int), .int .i64 (↑w : Int)] W (Ret (.tuple #[.int .i64 (getV l k w), .int .i64 (getE l k w)]) W) := by
  by_cases hq : rawN l k w < 9223372036854775808
  · rw [getV_ok hq, getE_ok hq]; exact Get_ok a c k w l W hw hk hl h hq
  · rw [getV, getE, if_neg hq, if_neg hq]; exact Get_big a c k w l W hw hk hl h hq
set_option maxRecDepth 100000 in
set_option maxHeartbeats 2000000 in
theorem Unpack_ok (a : Option Addr) (c : Nat) (l : List UInt8) (aw : Option Addr) (cw : Nat) (ws : List Nat) (W : World) (hk : ∀ i, i < ws.length → ws.getD i 0 = 1 ∨ ws.getD i 0 = 2 ∨ ws.getD i 0 = 4 ∨ ws.getD i 0 = 8) (hs : ws.sum ≤ l.length) (hl : l.length ≤ 100000000) (hw : ws.length ≤ 1000) (h : Bys W (.slice a l.length c) l) (hws : Sl W (.slice aw ws.length cw) ws.length (ws.map nv)) (hq : ∀ i, i < ws.length → (unpL l 0 ws).getD i 0 < 9223372036854775808) :
    Calls Tryz.prog 107 #[.slice a l.length c, .slice aw ws.length cw] W (RetS (fun w' r => ∃ p c, r = .tuple #[.slice p ws.length c, .int .i64 0] ∧ w'.ownsRow W.heap.size 3 1 (.slice p ws.length c) ws.length ((unpL l 0 ws).map nv)) W) := by
 refine zin 37 Tryz.func107 ?_
 have hB := Below.refl W.heap.size W
 refine zl 25 37 (fun zm zkv V => ∃ (i : Nat) (p : Option Addr) (c2 : Nat), zkv = [(0, .slice a l.length c), (6, .slice p i c2), (7, .int .i64 (↑(ws.take i).sum : Int)), (12, .slice aw ws.length cw), (13, .int .i64 (↑ws.length : Int)), (14, .int .i64 (↑i : Int))] ∧ zm = ws.length - ((↑i : Int)).toNat ∧ Below W.heap.size W V ∧ V.ownsRow W.heap.size 3 1 (.slice p i c2) i ((unpL l 0 (ws.take i)).map nv) ∧ i ≤ ws.length) ⟨0, _, _, rfl, rfl, hB, World.ownsRow_nil _ _ _ _, Nat.zero_le _⟩ ?_
 rintro _ _ W1 ⟨i, p, c2, rfl, rfl, hB_1, ho, hi⟩ J1 hJ1 r1
 have hts : i < ws.length → (ws.take i).sum + ws.getD i 0 ≤ ws.sum := take_sum_le
 have hui : i < ws.length → (unpL l 0 ws).getD i 0 = rawN l (ws.take i).sum (ws.getD i 0) := fun h => by rw [unpL_get l ws 0 i h, Nat.zero_add]
 refine xid 6 ((↑i : Int) < (↑ws.length : Int)) (fun hc2 => ?_) (fun hc2 => ?_)
 · refine xx 6 _ ws.length i 1 (nv_elem hws rfl (k := i) (by omega)).1 ?_
   refine xl 0 ((nv_elem (hws.below hB_1) rfl (k := i) (by omega)).2) ?_
   refine xr 8 (args := #[.slice a l.length c, .int .i64 (↑(ws.take i).sum : Int), .int .i64 (↑(ws.getD i 0) : Int)]) (Get_gen a c (ws.take i).sum (ws.getD i 0) l _ (hk i (by omega)) (by omega) hl (h.below hB_1)) fun W3 hb3 => ?_
   refine xk 14 (show (((getE l (ws.take i).sum (ws.getD i 0)) != (0 : Int)) : Bool) = false from by rw [getE_ok (by rw [← hui (by omega)]; exact hq i (by omega))]; rfl) ?_
   refine xbs 6 1 [.int .i64 (getV l (ws.take i).sum (ws.getD i 0))] 3 fun b4 W4 n4 => ?_
   have ho'1 := own_below ho hb3
   have r4_ho := own_ne ho'1 n4
   have ho'2 := own_below ho'1 n4.below
   have hB'1 := Bl.next (Bl.next hB_1 hb3) n4.below
   refine xbi 0 fun _ _ _ _ zJ zQ zo zx zy zK => op_app (m := 1) (news := [.int .i64 (getV l (ws.take i).sum (ws.getD i 0))]) (.int .i64 0) 1 8 (i + 1) ((unpL l 0 (ws.take (i + 1))).map nv) zo Tryz.underlying26 (by kernel_rfl) rfl (by decide) zx ho'2 zy (n4.blk.sl 1 1 (by decide) (by decide)) rfl (by simp [Value.oneCell']) (by unfold maxLen; omega) (by omega) hB'1.size (by rfl) (by rw [take_snoc (by omega), unpL_snoc, Nat.zero_add, List.map_append]; simp only [List.map_cons, List.map_nil, nv]; rw [getV_ok (by rw [← hui (by omega)]; exact hq i (by omega))]) fun p5 c5 W5 o5 hg5 hb5 => ?_
   refine zK _ _ ?_
   refine xwm 6 ((↑(ws.take i).sum : Int) + (↑(ws.getD i 0) : Int)) (↑((ws.take i).sum + (ws.getD i 0)) : Int) ?_
   refine xwm 5 ((↑i : Int) + 1) (↑(i + 1) : Int) ?_
   refine xv1 2 7 (show (.int .i64 (↑((ws.take i).sum + (ws.getD i 0)) : Int) : Value) = .int .i64 (↑(ws.take (i + 1)).sum : Int) from by rw [take_snoc (by omega), List.sum_append]; simp) ?_
   have hB'2 := hB'1.trans hb5
   exact ze 0 (hJ1 _ _ _ ⟨i + 1, _, _, rfl, rfl, hB'2, o5, by omega⟩ (by omega))
 refine xe 13 (.tuple #[.slice p i c2, .int .i64 0]) ?_
 obtain rfl : i = ws.length := by omega
 rw [List.take_length] at ho
 exact ⟨_, rfl, hB_1, _, _, rfl, ho⟩
set_option maxRecDepth 100000 in
set_option maxHeartbeats 2000000 in
theorem Unpack_bad (a : Option Addr) (c : Nat) (l : List UInt8) (aw : Option Addr) (cw : Nat) (ws : List Nat) (W : World) (hk : ∀ i, i < ws.length → ws.getD i 0 = 1 ∨ ws.getD i 0 = 2 ∨ ws.getD i 0 = 4 ∨ ws.getD i 0 = 8) (hs : ws.sum ≤ l.length) (hl : l.length ≤ 100000000) (hw : ws.length ≤ 1000) (h : Bys W (.slice a l.length c) l) (hws : Sl W (.slice aw ws.length cw) ws.length (ws.map nv)) (hq : ¬ ∀ i, i < ws.length → (unpL l 0 ws).getD i 0 < 9223372036854775808) :
    Calls Tryz.prog 107 #[.slice a l.length c, .slice aw ws.length cw] W (Ret (.tuple #[.slice none 0 0, .int .i64 2]) W) := by
 refine zin 37 Tryz.func107 ?_
 have hB := Below.refl W.heap.size W
 refine zl 25 37 (fun zm zkv V => ∃ (i : Nat) (p : Option Addr) (c2 : Nat), zkv = [(0, .slice a l.length c), (6, .slice p i c2), (7, .int .i64 (↑(ws.take i).sum : Int)), (12, .slice aw ws.length cw), (13, .int .i64 (↑ws.length : Int)), (14, .int .i64 (↑i : Int))] ∧ zm = ws.length - ((↑i : Int)).toNat ∧ Below W.heap.size W V ∧ V.ownsRow W.heap.size 3 1 (.slice p i c2) i ((unpL l 0 (ws.take i)).map nv) ∧ i ≤ ws.length ∧ (∀ j, j < i → (unpL l 0 ws).getD j 0 < 9223372036854775808)) ⟨0, _, _, rfl, rfl, hB, World.ownsRow_nil _ _ _ _, Nat.zero_le _, ?_⟩ ?_
 · exact fun j hj => absurd hj (by omega)
 rintro _ _ W1 ⟨i, p, c2, rfl, rfl, hB_1, ho, hi, hall⟩ J1 hJ1 r1
 have hts : i < ws.length → (ws.take i).sum + ws.getD i 0 ≤ ws.sum := take_sum_le
 have hui : i < ws.length → (unpL l 0 ws).getD i 0 = rawN l (ws.take i).sum (ws.getD i 0) := fun h => by rw [unpL_get l ws 0 i h, Nat.zero_add]
 refine xid 6 ((↑i : Int) < (↑ws.length : Int)) (fun hc2 => ?_) (fun hc2 => ?_)
 · refine xx 6 _ ws.length i 1 (nv_elem hws rfl (k := i) (by omega)).1 ?_
   refine xl 0 ((nv_elem (hws.below hB_1) rfl (k := i) (by omega)).2) ?_
   refine xr 8 (args := #[.slice a l.length c, .int .i64 (↑(ws.take i).sum : Int), .int .i64 (↑(ws.getD i 0) : Int)]) (Get_gen a c (ws.take i).sum (ws.getD i 0) l _ (hk i (by omega)) (by omega) hl (h.below hB_1)) fun W3 hb3 => ?_
   refine xin 14 (getE l (ws.take i).sum (ws.getD i 0)) (0 : Int) (fun hc4 => ?_) (fun hc4 => ?_)
   · have hgr := getE_two hc4
     have hB'1 := Bl.next hB_1 hb3
     refine xe 14 (.tuple #[.slice none 0 0, .int .i64 (getE l (ws.take i).sum (ws.getD i 0))]) ?_
     rw [hgr.2]; exact ⟨rfl, hB'1⟩
   have hgr := getE_zero hc4
   refine xbs 6 1 [.int .i64 (getV l (ws.take i).sum (ws.getD i 0))] 3 fun b5 W5 n5 => ?_
   have ho'1 := own_below ho hb3
   have r5_ho := own_ne ho'1 n5
   have ho'2 := own_below ho'1 n5.below
   have hB'2 := Bl.next (Bl.next hB_1 hb3) n5.below
   refine xbi 0 fun _ _ _ _ zJ zQ zo zx zy zK => op_app (m := 1) (news := [.int .i64 (getV l (ws.take i).sum (ws.getD i 0))]) (.int .i64 0) 1 8 (i + 1) ((unpL l 0 (ws.take (i + 1))).map nv) zo Tryz.underlying26 (by kernel_rfl) rfl (by decide) zx ho'2 zy (n5.blk.sl 1 1 (by decide) (by decide)) rfl (by simp [Value.oneCell']) (by unfold maxLen; omega) (by omega) hB'2.size (by rfl) (by rw [take_snoc (by omega), unpL_snoc, Nat.zero_add, List.map_append]; simp only [List.map_cons, List.map_nil, nv]; rw [getV_ok hgr]) fun p6 c6 W6 o6 hg6 hb6 => ?_
   refine zK _ _ ?_
   refine xwm 6 ((↑(ws.take i).sum : Int) + (↑(ws.getD i 0) : Int)) (↑((ws.take i).sum + (ws.getD i 0)) : Int) ?_
   refine xwm 5 ((↑i : Int) + 1) (↑(i + 1) : Int) ?_
   refine xv1 2 7 (show (.int .i64 (↑((ws.take i).sum + (ws.getD i 0)) : Int) : Value) = .int .i64 (↑(ws.take (i + 1)).sum : Int) from by rw [take_snoc (by omega), List.sum_append]; simp) ?_
   have hB'3 := hB'2.trans hb6
   exact ze 0 (hJ1 _ _ _ ⟨i + 1, _, _, rfl, rfl, hB'3, o6, by omega, fun j hj => (Nat.lt_or_ge j i).elim (fun q => hall j q) (fun q => by obtain rfl : j = i := (by omega); rw [hui (by omega)]; exact hgr)⟩ (by omega))
 refine xe 13 (.tuple #[.slice p i c2, .int .i64 0]) ?_
 exact absurd (fun j hj => hall j (by omega)) hq
end Go.Proofs.YtolblnjohaooaaaGreatDoor
namespace Go.Proofs.YtolblnjohaooaaaGreatDoor
open Go.RowKit Go.Extern.Stop Go.Stop Go.Extern
set_option linter.unusedVariables false
attribute [local irreducible] wpList wpAnyH Code.wp Oper.wp Go

theorem tmod_bd (x : Int) {m : Nat} (hm : 0 < m) : -(m : Int) < Int.tmod x m ∧ Int.tmod x m < m := by
  have h1 := Int.tmod_lt_of_pos x (b := (m : Int)) (by omega)
  have h2 := Int.tmod_lt_of_pos (-x) (b := (m : Int)) (by omega)
  rw [Int.neg_tmod] at h2
  omega
theorem tmod_nn {x : Int} (hx : 0 ≤ x) (m : Nat) : 0 ≤ Int.tmod x m := Int.tmod_nonneg _ hx
theorem run_rem {P : Program} {a : Act} {o : Oper} {t : TypeId} {x y : Operand} {t2 : TypeId} {p q r : Int} {k : IntKind} (ho : o.op = .binOp .rem t x y t2) (hx : a.eval x = .int k p) (hy : a.eval y = .int k q) (hq : q ≠ 0) (hr : Int.tmod p q = r) (w : World) :
    (execOp a.eval o).run P w = .ok (.value (.int k r)) w := by
  subst hr
  have hb : (binOp .rem t (.int k p) (.int k q)).run P w = .ok (.int k (p.tmod q)) w := by
    simp [binOp, Op.intDiv, hq]
  have hg : (eqGuard .rem t x y (.int k p) (.int k q)).run P w = .ok () w := rfl
  simp only [execOp, ho, hx, hy, Sem.run_bind, hg, Result.andThen_ok, hb]
  rfl
theorem run_bstr {P : Program} {a : Act} {o : Oper} {src dst e : TypeId} {x : Operand} {b : Option Addr} {n c : Nat} {l : List UInt8} {w : World} (ho : o.op = .convert src dst x) (hx : a.eval x = .slice b n c) (h : Bys w (.slice b n c) l) (hl : l.length = n)
    (hs : P.underlying src = some (.slice e)) (he : P.underlying e = some (.int .u8)) (hd : P.underlying dst = some .string) : (execOp a.eval o).run P w = .ok (.value (.string ⟨l.toArray⟩)) w := by
  have hr : (convert src dst (.slice b n c)).run P w = .ok (.string ⟨l.toArray⟩) w := by
    subst hl
    rcases Sl.at h with hn | ⟨g, off, rfl, hc⟩
    · obtain rfl : l = [] := by simpa using hn
      cases b with
      | none => rw [run_convert_bytes_string w src dst e none _ c hs he hd]; rfl
      | some p => exact run_convert_bytes_back w src dst e p c [] hs he hd (fun j hj => by simp at hj)
    · exact run_convert_bytes_back w src dst e _ c l hs he hd (fun j hj => by rw [Addr.add_mid]; exact hc j _ (by simp [List.getElem?_eq_getElem hj, bv]))
  simp only [execOp, ho, hx, Sem.run_bind, hr]; rfl
theorem u8_nat (n : Nat) : IntKind.u8.wrap (n : Int) = ((UInt8.ofNat n).toNat : Int) := by simp [IntKind.wrap, IntKind.bits, IntKind.signed]
theorem own_someN {w : World} {base n c size : Nat} {e : TypeId} {p : Option Addr} {xs : List Value} (h : w.ownsRow base e size (.slice p n c) n xs) (hn : 0 < n) : ∃ g, p = some ⟨g, 0, none⟩ ∧ n ≤ c := by
  rcases h.2 with ⟨_, h0⟩ | ⟨g, cap, cur, hv, _, _, hc, _⟩
  · omega
  · simp only [Value.slice.injEq] at hv; exact ⟨g, hv.1, by omega⟩
/-- k blocks from f on, each sealed -/
def layB (l : List UInt8) (kind : Int) (f : Nat) : Nat → List UInt8
  | 0 => l
  | k + 1 => putB (layB l kind f k) ((f + k) * 256) (sealB kind ((f + k : Nat) : Int) [UInt8.ofNat (f + k)])
set_option maxRecDepth 100000 in
theorem layB_len {l : List UInt8} {kind : Int} {f : Nat} : ∀ {k : Nat}, (f + k) * 256 ≤ l.length → (layB l kind f k).length = l.length
  | 0, _ => by simp only [layB]
  | k + 1, h => by
    have ih := layB_len (kind := kind) (f := f) (k := k) (l := l) (by omega)
    rw [layB, putB_len (by rw [sealB_len (by simp), ih]; omega), ih]
theorem putB_take {l : List UInt8} {k m : Nat} {x : List UInt8} (h : m ≤ k) (hk : k ≤ l.length) : (putB l k x).take m = l.take m := by
  unfold putB
  rw [List.append_assoc, List.take_append_of_le_length (by rw [List.length_take]; omega), List.take_take, Nat.min_eq_left h]
set_option maxRecDepth 100000 in
theorem layB_take {l : List UInt8} {kind : Int} {f : Nat} : ∀ {k : Nat}, (f + k) * 256 ≤ l.length → (layB l kind f k).take (256 * f) = l.take (256 * f)
  | 0, _ => by simp only [layB]
  | k + 1, h => by
    rw [layB, putB_take (by omega) (by rw [layB_len (by omega)]; omega), layB_take (by omega)]
theorem Bys.cap {w : World} {a : Option Addr} {n c : Nat} {l : List UInt8} (h : Bys w (.slice a n c) l) (hl : l.length = n) : n ≤ c := by
  rcases h with ⟨a', c', h1, h2, _⟩ | ⟨b, off, cap, h1, h2, _, _⟩
  · omega
  · simp only [Value.slice.injEq] at h1; omega
theorem image_OfN (a : Option Addr) (c n m : Nat) (l : List UInt8) (w : World) (hn : l.length = n) (hm : min (n / 256) 14400 * 256 = m) (h : Bys w (.slice a n c) l) (hl : n ≤ 100000000) (hc : n ≤ c) :
    Calls Tryz.prog 9 #[.slice a n c] w (RetS (fun w' r => ∃ b p c, r = .pointer (some ⟨b, 0, none⟩) ∧ w.heap.size ≤ b ∧ Blk w' b [.slice p m c] 71 ∧ w'.ownsRow w.heap.size 5 1 (.slice p m c) m ((l.take m).map bv)) w) := by
  subst hn hm; exact image_Of a c l w h hl hc
end Go.Proofs.YtolblnjohaooaaaGreatDoor
namespace Go.Proofs.YtolblnjohaooaaaGreatDoor
open Go.RowKit Go.Extern.Stop Go.Stop Go.Extern
set_option linter.unusedVariables false
attribute [local irreducible] wpList wpAnyH Code.wp Oper.wp Go

section
variable {P : Program} {a : Act}
/-- a cut of a slice at both bounds -/
theorem run_sliceLHA {o : Oper} {t e : TypeId} {x y y2 : Operand} {b : Option Addr} {n k h c : Nat} {i j : Int} {ki kj : IntKind} (size : Nat) (ho : o.op = .slice t x (some y) (some y2) none) (hx : a.eval x = .slice b n c) (hy : a.eval y = .int ki i) (hi : i = (k : Int)) (hy2 : a.eval y2 = .int kj j) (hj : j = (h : Int)) (hk : k ≤ h) (hc : h ≤ c)
    (ht : P.underlying t = some (.slice e)) (hs : (P.info? e).map (·.size) = some size) (w : World) : (execOp a.eval o).run P w = .ok (.value (.slice (cutA b k c size) (h - k) (c - k))) w := by
  cases hq : P.info? e with
  | none => simp [hq] at hs
  | some q =>
    have hj' : q.size = size := by simpa [hq] using hs
    subst hi hj
    have h1 : (0 : Int) ≤ (k : Int) := by omega
    have h2 : (0 : Int) ≤ (h : Int) := by omega
    have h3 : (k : Int) ≤ (h : Int) := by omega
    have h4 : (h : Int) ≤ (c : Int) := by omega
    by_cases h5 : c = k
    · simp_all [execOp, Instr.sliceAt, Instr.slice, Instr.sliceBounds, Instr.sliceBound, asIntOf, run_underlying ht, sizeOf, typeInfo, cutA]
    · simp_all [execOp, Instr.sliceAt, Instr.slice, Instr.sliceBounds, Instr.sliceBound, asIntOf, run_underlying ht, sizeOf, typeInfo, cutA]
end
theorem Bys.cut {w : World} {b : Option Addr} {n c : Nat} {l : List UInt8} (h : Bys w (.slice b n c) l) (hl : l.length = n) (k m : Nat) (hk : k ≤ m) (hm : m ≤ n) : Bys w (.slice (cutA b k c 1) (m - k) (c - k)) ((l.drop k).take (m - k)) := by
  have hlen : ((l.drop k).take (m - k)).length = m - k := by simp; omega
  have hcap := Bys.cap h hl
  rcases h with ⟨a', c', h1, h2, h3⟩ | ⟨g, off, cap, h1, h2, h3, h4⟩
  · obtain rfl : k = 0 := by omega
    obtain rfl : m = 0 := by omega
    refine .inl ⟨cutA b 0 c 1, c - 0, ?_, by simp, by simp⟩
    simp
  · simp only [Value.slice.injEq] at h1
    obtain ⟨rfl, _, rfl⟩ := h1
    by_cases hz : m - k = 0
    · refine .inl ⟨cutA (some ⟨g, off, none⟩) k c 1, c - k, by rw [hz], by omega, ?_⟩
      rw [hz]; rfl
    · refine .inr ⟨g, off + k * 1, c - k, ?_, by omega, by omega, fun j x hj => ?_⟩
      · rw [cutA, if_neg (by omega), hlen]; simp [Addr.add]
      · rw [List.getElem?_map, List.getElem?_take] at hj
        split at hj
        · rw [List.getElem?_drop] at hj
          have := h4 (k + j) x (by rw [List.getElem?_map]; exact hj)
          rwa [Nat.mul_one, Nat.add_assoc]
        · cases hj
/-- whether all bytes are 0 -/
def zeroB (l : List UInt8) : Bool := l.all (· == 0)
theorem zeroB_true {l : List UInt8} (h : ∀ j, j < l.length → l.getD j 0 = 0) : zeroB l = true := by
  unfold zeroB
  rw [List.all_eq_true]
  intro x hx
  obtain ⟨j, hj, rfl⟩ := List.mem_iff_getElem.1 hx
  have := h j hj
  simpa [List.getD, hj] using this
theorem zeroB_false {l : List UInt8} {j : Nat} (hj : j < l.length) (h : ((l.getD j 0).toNat : Int) ≠ 0) : zeroB l = false := by
  unfold zeroB
  rw [List.all_eq_false]
  refine ⟨l[j], List.getElem_mem hj, ?_⟩
  intro h2
  apply h
  have : l[j] = 0 := by simpa using h2
  simp [List.getD, hj, this]
theorem byte_zero {x : UInt8} (h : (x.toNat : Int) = 0) : x = 0 := by
  have h1 : x.toNat = 0 := by omega
  exact UInt8.toNat_inj.1 (by rw [h1]; rfl)
set_option maxRecDepth 100000 in
set_option maxHeartbeats 1000000 in
theorem zero_1 (n : Int) (w : World) :
    Calls Tryz.prog 125 #[.int .u8 n] w (Ret (.bool (n != 0)) w) := by
 refine zin 5 Tryz.func125 ?_
 exact xe 13 (.bool (n != (0 : Int))) ⟨rfl, (Below.refl w.heap.size _)⟩
set_option maxRecDepth 100000 in
set_option maxHeartbeats 2000000 in
theorem indexZero (a : Option Addr) (c : Nat) (l : List UInt8) (w : World) (hl : l.length ≤ 100000000) (h : Bys w (.slice a l.length c) l) :
    Calls Tryz.prog 127 #[.slice a l.length c, .func (.func 125) #[] #[]] w (fun e w' => (zeroB l = true ∧ e = .returned (.int .i64 (-1)) ∧ Below w.heap.size w w') ∨ (zeroB l = false ∧ ∃ i : Nat, e = .returned (.int .i64 (i : Int)) ∧ Below w.heap.size w w')) := by
 refine zin 19 Tryz.func127 ?_
 have hB := Below.refl w.heap.size w
 refine zl 14 19 (fun zm zkv V => ∃ (i : Nat), zkv = [(0, .slice a l.length c), (1, .func (.func 125) #[] #[]), (7, .int .i64 (↑l.length : Int)), (8, .int .i64 (↑i : Int))] ∧ zm = l.length - ((↑i : Int)).toNat ∧ Below w.heap.size w V ∧ i ≤ l.length ∧ (∀ j, j < i → l.getD j 0 = 0)) ⟨0, rfl, rfl, hB, Nat.zero_le _, ?_⟩ ?_
 · exact fun j hj => absurd hj (by omega)
 rintro _ _ W1 ⟨i, rfl, rfl, hB_1, hi, hz⟩ J1 hJ1 r1
 refine xid 6 ((↑i : Int) < (↑l.length : Int)) (fun hc2 => ?_) (fun hc2 => ?_)
 · refine xx 15 _ l.length i 1 (Bys.elem h (k := i) (by omega)).1 ?_
   refine xl 0 ((Bys.elem (h.below hB_1) (k := i) (by omega)).2) ?_
   refine xr 0 (args := #[.int .u8 (↑(l.getD i 0).toNat : Int)]) (zero_1 (↑(l.getD i 0).toNat : Int) _) fun W3 hb3 => ?_
   refine xin 2 (↑(l.getD i 0).toNat : Int) (0 : Int) (fun hc4 => ?_) (fun hc4 => ?_)
   · have hB'1 := Bl.next hB_1 hb3
     exact xe 12 (.int .i64 (↑i : Int)) (.inr ⟨zeroB_false (j := i) (by omega) (by assumption), _, rfl, hB'1⟩)
   refine xwm 4 ((↑i : Int) + 1) (↑(i + 1) : Int) ?_
   have hB'2 := Bl.next hB_1 hb3
   exact ze 2 (hJ1 _ _ _ ⟨i + 1, rfl, rfl, hB'2, by omega, fun j hj => (Nat.lt_or_ge j i).elim (hz j) (fun q => by obtain rfl : j = i := (by omega); exact byte_zero (by assumption))⟩ (by omega))
 exact xe 11 (.int .i64 (-1)) (.inl ⟨zeroB_true (fun j hj => hz j (by omega)), rfl, hB_1⟩)
set_option maxRecDepth 100000 in
set_option maxHeartbeats 1000000 in
theorem containsZero (a : Option Addr) (c : Nat) (l : List UInt8) (w : World) (hl : l.length ≤ 100000000) (h : Bys w (.slice a l.length c) l) :
    Calls Tryz.prog 124 #[.slice a l.length c, .func (.func 125) #[] #[]] w (Ret (.bool (!zeroB l)) w) := by
 refine zin 9 Tryz.func124 ?_
 refine xc 9 (args := #[.slice a l.length c, .func (.func 125) #[] #[]]) (indexZero a c l _ hl (h.below (Below.refl w.heap.size _))) ?_
 rintro e W1 hq1
 rcases hq1 with ⟨hz, rfl, hb1⟩ | ⟨hz, i0, rfl, hb1⟩
 · refine xe 5 (.bool false) ?_
   rw [hz]; exact ⟨rfl, hb1⟩
 refine xe 5 (.bool (decide ((↑i0 : Int) ≥ (0 : Int)))) ?_
 rw [hz, show decide ((↑i0 : Int) ≥ (0 : Int)) = true from decide_eq_true (by omega)]; exact ⟨rfl, hb1⟩
set_option maxRecDepth 100000 in
set_option maxHeartbeats 1000000 in
theorem code_Zero (a : Option Addr) (c : Nat) (l : List UInt8) (w : World) (hl : l.length ≤ 100000000) (h : Bys w (.slice a l.length c) l) :
    Calls Tryz.prog 105 #[.slice a l.length c] w (Ret (.bool (zeroB l)) w) := by
 refine zin 6 Tryz.func105 ?_
 refine xr 8 (args := #[.slice a l.length c, .func (.func 125) #[] #[]]) (containsZero a c l _ hl (h.below (Below.refl w.heap.size _))) fun W1 hb1 => ?_
 refine xe 5 (.bool (!(!zeroB l))) ?_
 rw [Bool.not_not]; exact ⟨rfl, hb1⟩
/-- a kind and a number that may be -/
def knownB (kind no : Int) : Bool := decide (1 ≤ kind ∧ kind ≤ 4 ∧ 0 ≤ no ∧ no < 14400)
set_option maxRecDepth 100000 in
set_option maxHeartbeats 1000000 in
theorem seal_knownB (kind no : Int) (w : World) :
    Calls Tryz.prog 57 #[.int .i64 kind, .int .i64 no] w (Ret (.bool (knownB kind no)) w) := by
 refine zin 19 Tryz.func57 ?_
 refine xg 10 [6, 7] (decide (kind ≥ (1 : Int))) (fun hc1 => ?_) (fun hc1 => ?_)
 · have hc1 := of_decide_eq_true hc1
   refine xg 4 [9, 10, 11] (decide (kind ≤ (4 : Int))) (fun hc2 => ?_) (fun hc2 => ?_)
   · have hc2 := of_decide_eq_true hc2
     refine xg 4 [13, 14, 15] (decide (no ≥ (0 : Int))) (fun hc3 => ?_) (fun hc3 => ?_)
     · have hc3 := of_decide_eq_true hc3
       exact xe 7 (.bool (decide (no < (14400 : Int)))) ⟨by rw [show knownB kind no = decide (no < 14400) from decide_eq_decide.2 ⟨fun h => h.2.2.2, fun h => ⟨by omega, by omega, by omega, h⟩⟩], (Below.refl w.heap.size _)⟩
     have hc3 := of_decide_eq_false hc3
     exact xe 7 (.bool false) ⟨by rw [show knownB kind no = false from decide_eq_false (by omega)], (Below.refl w.heap.size _)⟩
   have hc2 := of_decide_eq_false hc2
   exact xe 11 (.bool false) ⟨by rw [show knownB kind no = false from decide_eq_false (by omega)], (Below.refl w.heap.size _)⟩
 have hc1 := of_decide_eq_false hc1
 exact xe 15 (.bool false) ⟨by rw [show knownB kind no = false from decide_eq_false (by omega)], (Below.refl w.heap.size _)⟩
set_option maxRecDepth 100000 in
set_option maxHeartbeats 1000000 in
theorem seal_told (a : Option Addr) (c k w : Nat) (l : List UInt8) (W : World) (hw : w = 1 ∨ w = 2 ∨ w = 4) (hk : k + w ≤ l.length) (hl : l.length ≤ 100000000) (h : Bys W (.slice a l.length c) l) :
    Calls Tryz.prog 120 #[.slice a l.length c, .int .i64 (↑k : Int), .int .i64 (↑w : Int)] W (Ret (.int .i64 (rawN l k w : Int)) W) := by
 refine zin 17 Tryz.func120 ?_
 refine xr 10 (args := #[.slice a l.length c, .int .i64 (↑k : Int), .int .i64 (↑w : Int)]) (Get_ok a c k w l _ (by omega) hk hl (h.below (Below.refl W.heap.size _)) (by have := rawN_lt4 l k w (by omega); omega)) fun W1 hb1 => ?_
 exact xe 14 (.int .i64 (↑(rawN l k w) : Int)) ⟨rfl, hb1⟩
theorem seal_toldN (a : Option Addr) (n c k w : Nat) (ki wi : Int) (l : List UInt8) (W : World) (hn : l.length = n) (hki : ki = (k : Int)) (hwi : wi = (w : Int)) (hw : w = 1 ∨ w = 2 ∨ w = 4) (hk : k + w ≤ n) (hl : n ≤ 100000000) (h : Bys W (.slice a n c) l) :
    Calls Tryz.prog 120 #[.slice a n c, .int .i64 ki, .int .i64 wi] W (Ret (.int .i64 (rawN l k w : Int)) W) := by
  subst hn hki hwi; exact seal_told a c k w l W hw hk hl h
/-- what Open asks, in order -/
def askB (kind no : Int) (l : List UInt8) : Nat → Bool
  | 0 => !knownB kind no
  | 1 => (l.length : Int) != 256
  | 2 => (rawN l 252 4 : Int) != (sumB l kind : Int)
  | 3 => (rawN l 0 4 : Int) != no
  | 4 => (rawN l 4 2 : Int) != kind
  | _ => (rawN l 6 2 : Int) != 0
/-- the number of the first that is so; 0: none -/
def openE (kind no : Int) (l : List UInt8) : Int :=
  if askB kind no l 0 then 1 else if askB kind no l 1 then 7 else if askB kind no l 2 then 4 else if askB kind no l 3 then 5 else if askB kind no l 4 then 6 else if askB kind no l 5 then 7 else 0
theorem ask1 {kind no : Int} {l : List UInt8} (h : askB kind no l 1 = false) : l.length = 256 := by
  have : (l.length : Int) = 256 := eq_of_bne_false h
  omega
set_option maxRecDepth 100000 in
set_option maxHeartbeats 1000000 in
theorem open_1 (kind no : Int) (w : World) (l : List UInt8) (bk : Nat) (kk : Blk w bk [.int .i64 kind] 3) (bn : Nat) (kn : Blk w bn [.int .i64 no] 3) :
    Calls Tryz.prog 117 #[.pointer (some ⟨bk, 0, none⟩), .pointer (some ⟨bn, 0, none⟩)] w (Ret (.bool (askB kind no l 0)) w) := by
 refine zin 7 Tryz.func117 ?_
 refine xb 7 0 kk ?_
 refine xb 0 0 kn ?_
 refine xr 0 (args := #[.int .i64 kind, .int .i64 no]) (seal_knownB kind no _) fun W1 hb1 => ?_
 exact xe 5 (.bool (!(knownB kind no))) ⟨rfl, hb1⟩
set_option maxRecDepth 100000 in
set_option maxHeartbeats 1000000 in
theorem open_2 (kind no : Int) (w : World) (bb : Nat) (a : Option Addr) (c : Nat) (l : List UInt8) (kb : Blk w bb [.slice a l.length c] 22) :
    Calls Tryz.prog 118 #[.pointer (some ⟨bb, 0, none⟩)] w (Ret (.bool (askB kind no l 1)) w) := by
 refine zin 5 Tryz.func118 ?_
 refine xb 7 0 kb ?_
 exact xe 6 (.bool ((↑l.length : Int) != (256 : Int))) ⟨rfl, (Below.refl w.heap.size _)⟩
theorem seal_sumN (kind : Int) (a : Option Addr) (c n : Nat) (l : List UInt8) (w : World) (hn : l.length = n) (h256 : n = 256) (hc : 256 ≤ c) (h : Bys w (.slice a n c) l) :
    Calls Tryz.prog 59 #[.slice a n c, .int .i64 kind] w (Ret (.int .i64 (sumB l kind : Int)) w) := by
  subst h256; exact seal_sum kind a c l w hn hc h
set_option maxRecDepth 100000 in
set_option maxHeartbeats 1000000 in
theorem open_3 (kind no : Int) (w : World) (bb : Nat) (a : Option Addr) (c : Nat) (l : List UInt8) (kb : Blk w bb [.slice a l.length c] 22) (bk : Nat) (kk : Blk w bk [.int .i64 kind] 3) (hl : l.length = 256) (hc : 256 ≤ c) (h : Bys w (.slice a l.length c) l) :
    Calls Tryz.prog 119 #[.pointer (some ⟨bb, 0, none⟩), .pointer (some ⟨bk, 0, none⟩)] w (Ret (.bool (askB kind no l 2)) w) := by
 refine zin 9 Tryz.func119 ?_
 refine xd 6 .z ?_
 have kb'1 := kb.below (below_drew w)
 refine xb (.e [] 0) 0 kb'1 ?_
 refine xb (.e [] 2) 0 kb'1 ?_
 have kk'1 := kk.below (below_drew w)
 refine xb (.e [] 3) 0 kk'1 ?_
 have hB := (below_drew w)
 refine xr (.o [] 1) (args := #[.slice a l.length c, .int .i64 252, .int .i64 4]) (seal_toldN a l.length c 252 4 252 4 l _ rfl rfl rfl (by decide) (by omega) (by omega) (h.below hB)) fun W1 hb1 => ?_
 have hB'1 := Bl.next hB hb1
 refine xr (.o [] 4) (args := #[.slice a l.length c, .int .i64 kind]) (seal_sumN kind a c l.length l _ rfl hl hc (h.below hB'1)) fun W2 hb2 => ?_
 have hB'2 := Bl.next hB'1 hb2
 exact xe (.r [5, 6] 3) (.bool ((↑(rawN l 252 4) : Int) != (↑(sumB l kind) : Int))) ⟨rfl, hB'2⟩
set_option maxRecDepth 100000 in
set_option maxHeartbeats 1000000 in
theorem open_4 (kind no : Int) (w : World) (bb : Nat) (a : Option Addr) (c : Nat) (l : List UInt8) (kb : Blk w bb [.slice a l.length c] 22) (bn : Nat) (kn : Blk w bn [.int .i64 no] 3) (hl : l.length = 256) (hc : 256 ≤ c) (h : Bys w (.slice a l.length c) l) :
    Calls Tryz.prog 121 #[.pointer (some ⟨bb, 0, none⟩), .pointer (some ⟨bn, 0, none⟩)] w (Ret (.bool (askB kind no l 3)) w) := by
 refine zin 7 Tryz.func121 ?_
 refine xd 6 .z ?_
 have kb'1 := kb.below (below_drew w)
 refine xb (.e [] 0) 0 kb'1 ?_
 have kn'1 := kn.below (below_drew w)
 refine xb (.e [] 2) 0 kn'1 ?_
 have hB := (below_drew w)
 refine xr (.o [] 1) (args := #[.slice a l.length c, .int .i64 0, .int .i64 4]) (seal_toldN a l.length c 0 4 0 4 l _ rfl rfl rfl (by decide) (by omega) (by omega) (h.below hB)) fun W1 hb1 => ?_
 have hB'1 := Bl.next hB hb1
 exact xe (.r [3, 4] 3) (.bool ((↑(rawN l 0 4) : Int) != no)) ⟨rfl, hB'1⟩
set_option maxRecDepth 100000 in
set_option maxHeartbeats 1000000 in
theorem open_5 (kind no : Int) (w : World) (bb : Nat) (a : Option Addr) (c : Nat) (l : List UInt8) (kb : Blk w bb [.slice a l.length c] 22) (bk : Nat) (kk : Blk w bk [.int .i64 kind] 3) (hl : l.length = 256) (hc : 256 ≤ c) (h : Bys w (.slice a l.length c) l) :
    Calls Tryz.prog 122 #[.pointer (some ⟨bb, 0, none⟩), .pointer (some ⟨bk, 0, none⟩)] w (Ret (.bool (askB kind no l 4)) w) := by
 refine zin 7 Tryz.func122 ?_
 refine xd 6 .z ?_
 have kb'1 := kb.below (below_drew w)
 refine xb (.e [] 0) 0 kb'1 ?_
 have kk'1 := kk.below (below_drew w)
 refine xb (.e [] 2) 0 kk'1 ?_
 have hB := (below_drew w)
 refine xr (.o [] 1) (args := #[.slice a l.length c, .int .i64 4, .int .i64 2]) (seal_toldN a l.length c 4 2 4 2 l _ rfl rfl rfl (by decide) (by omega) (by omega) (h.below hB)) fun W1 hb1 => ?_
 have hB'1 := Bl.next hB hb1
 exact xe (.r [3, 4] 3) (.bool ((↑(rawN l 4 2) : Int) != kind)) ⟨rfl, hB'1⟩
set_option maxRecDepth 100000 in
set_option maxHeartbeats 1000000 in
theorem open_6 (kind no : Int) (w : World) (bb : Nat) (a : Option Addr) (c : Nat) (l : List UInt8) (kb : Blk w bb [.slice a l.length c] 22) (hl : l.length = 256) (hc : 256 ≤ c) (h : Bys w (.slice a l.length c) l) :
    Calls Tryz.prog 123 #[.pointer (some ⟨bb, 0, none⟩)] w (Ret (.bool (askB kind no l 5)) w) := by
 refine zin 5 Tryz.func123 ?_
 refine xb 7 0 kb ?_
 refine xr 0 (args := #[.slice a l.length c, .int .i64 6, .int .i64 2]) (seal_toldN a l.length c 6 2 6 2 l _ rfl rfl rfl (by decide) (by omega) (by omega) (h.below (Below.refl w.heap.size _))) fun W1 hb1 => ?_
 exact xe 5 (.bool ((↑(rawN l 6 2) : Int) != (0 : Int))) ⟨rfl, hb1⟩
/-- what Open hands back -/
def OpenP (kind no : Int) (l : List UInt8) (w : World) (e : Ending) (w' : World) : Prop :=
  (openE kind no l ≠ 0 ∧ e = .returned (.tuple #[.slice none 0 0, .int .i64 (openE kind no l)]) ∧ Below w.heap.size w w') ∨
  (openE kind no l = 0 ∧ ∃ p c, e = .returned (.tuple #[.slice p 244 c, .int .i64 0]) ∧ Below w.heap.size w w' ∧ w'.ownsRow w.heap.size 5 1 (.slice p 244 c) 244 (((l.drop 8).take 244).map bv))
set_option maxRecDepth 100000 in
set_option maxHeartbeats 4000000 in
theorem seal_Open (kind no : Int) (a : Option Addr) (c : Nat) (l : List UInt8) (w : World) (h : Bys w (.slice a l.length c) l) :
    Calls Tryz.prog 103 #[.slice a l.length c, .int .i64 kind, .int .i64 no] w (OpenP kind no l w) := by
 have hcap := h.cap rfl
 refine zin 39 Tryz.func103 ?_
 refine xa 2 [.slice a l.length c] 22 fun b1 W1 n1 => ?_
 refine xa 0 [.int .i64 kind] 3 fun b2 W2 n2 => ?_
 refine xa 0 [.int .i64 no] 3 fun b3 W3 n3 => ?_
 have d3_b2 := n3.ne n2.blk
 refine xbs 18 6 [.func (.func 117) #[] #[.pointer (some ⟨b2, 0, none⟩), .pointer (some ⟨b3, 0, none⟩)], .int .i64 1, .func (.func 118) #[] #[.pointer (some ⟨b1, 0, none⟩)], .int .i64 7, .func (.func 119) #[] #[.pointer (some ⟨b1, 0, none⟩), .pointer (some ⟨b2, 0, none⟩)], .int .i64 4, .func (.func 121) #[] #[.pointer (some ⟨b1, 0, none⟩), .pointer (some ⟨b3, 0, none⟩)], .int .i64 5, .func (.func 122) #[] #[.pointer (some ⟨b1, 0, none⟩), .pointer (some ⟨b2, 0, none⟩)], .int .i64 6, .func (.func 123) #[] #[.pointer (some ⟨b1, 0, none⟩)], .int .i64 7] 210 fun b4 W4 n4 => ?_
 refine xu 12 7 ?_
 refine xlv 14 (n4.blk.rpp 0 2) ?_
 refine xa 0 [.nilFunc, .int .i64 0] 210 fun b5 W5 n5 => ?_
 have d5_b4 := n5.ne n4.blk
 refine xsv 0 n5.blk [.func (.func 117) #[] #[.pointer (some ⟨b2, 0, none⟩), .pointer (some ⟨b3, 0, none⟩)], .int .i64 1] fun W6 u6 k6 => ?_
 have g5 := n5.ge (Bl.next (Bl.next (Bl.next n1.below n2.below) n3.below) n4.below)
 refine xb 5 0 k6 ?_
 have k2'1 := u6.blkT (((n2.blk.below n3.below).below n4.below).below n5.below) n5.blk (by decide)
 have k3 := u6.blkT ((n3.blk.below n4.below).below n5.below) n5.blk (by decide)
 refine xr 0 (args := #[.pointer (some ⟨b2, 0, none⟩), .pointer (some ⟨b3, 0, none⟩)]) (open_1 kind no _ l b2 k2'1 b3 k3) fun W7 hb7 => ?_
 refine xi 2 (askB kind no l 0) (fun hc8 => ?_) (fun hc8 => ?_)
 · have hk1 := hc8
   refine xd 1 .z ?_
   have k6'1 := (k6.below hb7).below (below_drew W7)
   refine xb (.e [0] 1) 1 k6'1 ?_
   have hB := Bl.next (Bl.next (u6.below (Bl.next (Bl.next (Bl.next (Bl.next n1.below n2.below) n3.below) n4.below) n5.below) g5) hb7) (below_drew W7)
   refine xe (.r [2, 3] 8) (.tuple #[.slice none 0 0, .int .i64 1]) ?_
   have he : openE kind no l = 1 := by simp [openE, hk1]
   exact .inl ⟨by rw [he]; decide, by rw [he], hB⟩
 have hk1 := hc8
 have k4'1 := (u6.blk (n4.blk.below n5.below) (Ne.symm (Ne.symm d5_b4))).below hb7
 refine xlv 22 (k4'1.rpp 2 2) ?_
 refine xa 0 [.nilFunc, .int .i64 0] 210 fun b9 W9 n9 => ?_
 have d9_b4 := n9.ne k4'1
 have k6'2 := k6.below hb7
 have d9_b5 := n9.ne k6'2
 refine xsv 0 n9.blk [.func (.func 118) #[] #[.pointer (some ⟨b1, 0, none⟩)], .int .i64 7] fun W10 u10 k10 => ?_
 have g9 := n9.ge (Bl.next (u6.below (Bl.next (Bl.next (Bl.next (Bl.next n1.below n2.below) n3.below) n4.below) n5.below) g5) hb7)
 refine xb 5 0 k10 ?_
 have k1 := u10.blkT (((u6.blkT ((((n1.blk.below n2.below).below n3.below).below n4.below).below n5.below) n5.blk (by decide)).below hb7).below n9.below) n9.blk (by decide)
 refine xr 0 (args := #[.pointer (some ⟨b1, 0, none⟩)]) (open_2 kind no _ b1 a c l k1) fun W11 hb11 => ?_
 refine xi 2 (askB kind no l 1) (fun hc12 => ?_) (fun hc12 => ?_)
 · have hk2 := hc12
   refine xd 1 .z ?_
   have k10'1 := (k10.below hb11).below (below_drew W11)
   refine xb (.e [0] 1) 1 k10'1 ?_
   have hB := Bl.next (Bl.next (u10.below (Bl.next (Bl.next (u6.below (Bl.next (Bl.next (Bl.next (Bl.next n1.below n2.below) n3.below) n4.below) n5.below) g5) hb7) n9.below) g9) hb11) (below_drew W11)
   refine xe (.r [2, 3] 8) (.tuple #[.slice none 0 0, .int .i64 7]) ?_
   have he : openE kind no l = 7 := by simp [openE, hk1, hk2]
   exact .inl ⟨by rw [he]; decide, by rw [he], hB⟩
 have hk2 := hc12
 have hl256 := ask1 hk2
 have k4'2 := (u10.blk (k4'1.below n9.below) (Ne.symm (Ne.symm d9_b4))).below hb11
 refine xlv 22 (k4'2.rpp 4 2) ?_
 refine xa 0 [.nilFunc, .int .i64 0] 210 fun b13 W13 n13 => ?_
 have d13_b4 := n13.ne k4'2
 have k6'3 := (u10.blk (k6'2.below n9.below) (Ne.symm (Ne.symm d9_b5))).below hb11
 have d13_b5 := n13.ne k6'3
 have k10'2 := k10.below hb11
 have d13_b9 := n13.ne k10'2
 have hB := Bl.next (u10.below (Bl.next (Bl.next (u6.below (Bl.next (Bl.next (Bl.next (Bl.next n1.below n2.below) n3.below) n4.below) n5.below) g5) hb7) n9.below) g9) hb11
 refine xsv 0 n13.blk [.func (.func 119) #[] #[.pointer (some ⟨b1, 0, none⟩), .pointer (some ⟨b2, 0, none⟩)], .int .i64 4] fun W14 u14 k14 => ?_
 have g13 := n13.ge hB
 refine xb 5 0 k14 ?_
 have k1'1 := u14.blkT ((k1.below hb11).below n13.below) n13.blk (by decide)
 have k2'2 := u14.blkT (((u10.blkT ((k2'1.below hb7).below n9.below) n9.blk (by decide)).below hb11).below n13.below) n13.blk (by decide)
 have hB'1 := u14.below (Bl.next hB n13.below) g13
 refine xr 0 (args := #[.pointer (some ⟨b1, 0, none⟩), .pointer (some ⟨b2, 0, none⟩)]) (open_3 kind no _ b1 a c l k1'1 b2 k2'2 (ask1 hk2) (by have := ask1 hk2; have := h.cap rfl; omega) (h.below hB'1)) fun W15 hb15 => ?_
 refine xi 2 (askB kind no l 2) (fun hc16 => ?_) (fun hc16 => ?_)
 · have hk3 := hc16
   refine xd 1 .z ?_
   have k14'1 := (k14.below hb15).below (below_drew W15)
   refine xb (.e [0] 1) 1 k14'1 ?_
   have hB'2 := Bl.next (Bl.next hB'1 hb15) (below_drew W15)
   refine xe (.r [2, 3] 8) (.tuple #[.slice none 0 0, .int .i64 4]) ?_
   have he : openE kind no l = 4 := by simp [openE, hk1, hk2, hk3]
   exact .inl ⟨by rw [he]; decide, by rw [he], hB'2⟩
 have hk3 := hc16
 have k4'3 := (u14.blk (k4'2.below n13.below) (Ne.symm (Ne.symm d13_b4))).below hb15
 refine xlv 22 (k4'3.rpp 6 2) ?_
 refine xa 0 [.nilFunc, .int .i64 0] 210 fun b17 W17 n17 => ?_
 have d17_b4 := n17.ne k4'3
 have k6'4 := (u14.blk (k6'3.below n13.below) (Ne.symm (Ne.symm d13_b5))).below hb15
 have d17_b5 := n17.ne k6'4
 have k10'3 := (u14.blk (k10'2.below n13.below) (Ne.symm (Ne.symm d13_b9))).below hb15
 have d17_b9 := n17.ne k10'3
 have k14'2 := k14.below hb15
 have d17_b13 := n17.ne k14'2
 refine xsv 0 n17.blk [.func (.func 121) #[] #[.pointer (some ⟨b1, 0, none⟩), .pointer (some ⟨b3, 0, none⟩)], .int .i64 5] fun W18 u18 k18 => ?_
 have g17 := n17.ge (Bl.next hB'1 hb15)
 refine xb 5 0 k18 ?_
 have k1'2 := u18.blkT ((k1'1.below hb15).below n17.below) n17.blk (by decide)
 have k3'1 := u18.blkT (((u14.blkT (((u10.blkT ((k3.below hb7).below n9.below) n9.blk (by decide)).below hb11).below n13.below) n13.blk (by decide)).below hb15).below n17.below) n17.blk (by decide)
 have hB'3 := u18.below (Bl.next (Bl.next hB'1 hb15) n17.below) g17
 refine xr 0 (args := #[.pointer (some ⟨b1, 0, none⟩), .pointer (some ⟨b3, 0, none⟩)]) (open_4 kind no _ b1 a c l k1'2 b3 k3'1 (ask1 hk2) (by have := ask1 hk2; have := h.cap rfl; omega) (h.below hB'3)) fun W19 hb19 => ?_
 refine xi 2 (askB kind no l 3) (fun hc20 => ?_) (fun hc20 => ?_)
 · have hk4 := hc20
   refine xd 1 .z ?_
   have k18'1 := (k18.below hb19).below (below_drew W19)
   refine xb (.e [0] 1) 1 k18'1 ?_
   have hB'4 := Bl.next (Bl.next hB'3 hb19) (below_drew W19)
   refine xe (.r [2, 3] 8) (.tuple #[.slice none 0 0, .int .i64 5]) ?_
   have he : openE kind no l = 5 := by simp [openE, hk1, hk2, hk3, hk4]
   exact .inl ⟨by rw [he]; decide, by rw [he], hB'4⟩
 have hk4 := hc20
 have k4'4 := (u18.blk (k4'3.below n17.below) (Ne.symm (Ne.symm d17_b4))).below hb19
 refine xlv 22 (k4'4.rpp 8 2) ?_
 refine xa 0 [.nilFunc, .int .i64 0] 210 fun b21 W21 n21 => ?_
 have d21_b4 := n21.ne k4'4
 have k6'5 := (u18.blk (k6'4.below n17.below) (Ne.symm (Ne.symm d17_b5))).below hb19
 have d21_b5 := n21.ne k6'5
 have k10'4 := (u18.blk (k10'3.below n17.below) (Ne.symm (Ne.symm d17_b9))).below hb19
 have d21_b9 := n21.ne k10'4
 have k14'3 := (u18.blk (k14'2.below n17.below) (Ne.symm (Ne.symm d17_b13))).below hb19
 have d21_b13 := n21.ne k14'3
 have k18'2 := k18.below hb19
 have d21_b17 := n21.ne k18'2
 refine xsv 0 n21.blk [.func (.func 122) #[] #[.pointer (some ⟨b1, 0, none⟩), .pointer (some ⟨b2, 0, none⟩)], .int .i64 6] fun W22 u22 k22 => ?_
 have g21 := n21.ge (Bl.next hB'3 hb19)
 refine xb 5 0 k22 ?_
 have k1'3 := u22.blkT ((k1'2.below hb19).below n21.below) n21.blk (by decide)
 have k2'3 := u22.blkT (((u18.blkT ((k2'2.below hb15).below n17.below) n17.blk (by decide)).below hb19).below n21.below) n21.blk (by decide)
 have hB'5 := u22.below (Bl.next (Bl.next hB'3 hb19) n21.below) g21
 refine xr 0 (args := #[.pointer (some ⟨b1, 0, none⟩), .pointer (some ⟨b2, 0, none⟩)]) (open_5 kind no _ b1 a c l k1'3 b2 k2'3 (ask1 hk2) (by have := ask1 hk2; have := h.cap rfl; omega) (h.below hB'5)) fun W23 hb23 => ?_
 refine xi 2 (askB kind no l 4) (fun hc24 => ?_) (fun hc24 => ?_)
 · have hk5 := hc24
   refine xd 1 .z ?_
   have k22'1 := (k22.below hb23).below (below_drew W23)
   refine xb (.e [0] 1) 1 k22'1 ?_
   have hB'6 := Bl.next (Bl.next hB'5 hb23) (below_drew W23)
   refine xe (.r [2, 3] 8) (.tuple #[.slice none 0 0, .int .i64 6]) ?_
   have he : openE kind no l = 6 := by simp [openE, hk1, hk2, hk3, hk4, hk5]
   exact .inl ⟨by rw [he]; decide, by rw [he], hB'6⟩
 have hk5 := hc24
 have k4'5 := (u22.blk (k4'4.below n21.below) (Ne.symm (Ne.symm d21_b4))).below hb23
 refine xlv 22 (k4'5.rpp 10 2) ?_
 refine xa 0 [.nilFunc, .int .i64 0] 210 fun b25 W25 n25 => ?_
 have d25_b4 := n25.ne k4'5
 have k6'6 := (u22.blk (k6'5.below n21.below) (Ne.symm (Ne.symm d21_b5))).below hb23
 have d25_b5 := n25.ne k6'6
 have k10'5 := (u22.blk (k10'4.below n21.below) (Ne.symm (Ne.symm d21_b9))).below hb23
 have d25_b9 := n25.ne k10'5
 have k14'4 := (u22.blk (k14'3.below n21.below) (Ne.symm (Ne.symm d21_b13))).below hb23
 have d25_b13 := n25.ne k14'4
 have k18'3 := (u22.blk (k18'2.below n21.below) (Ne.symm (Ne.symm d21_b17))).below hb23
 have d25_b17 := n25.ne k18'3
 have k22'2 := k22.below hb23
 have d25_b21 := n25.ne k22'2
 refine xsv 0 n25.blk [.func (.func 123) #[] #[.pointer (some ⟨b1, 0, none⟩)], .int .i64 7] fun W26 u26 k26 => ?_
 have g25 := n25.ge (Bl.next hB'5 hb23)
 refine xb 5 0 k26 ?_
 have k1'4 := u26.blkT ((k1'3.below hb23).below n25.below) n25.blk (by decide)
 have hB'7 := u26.below (Bl.next (Bl.next hB'5 hb23) n25.below) g25
 refine xr 0 (args := #[.pointer (some ⟨b1, 0, none⟩)]) (open_6 kind no _ b1 a c l k1'4  (ask1 hk2) (by have := ask1 hk2; have := h.cap rfl; omega) (h.below hB'7)) fun W27 hb27 => ?_
 refine xi 2 (askB kind no l 5) (fun hc28 => ?_) (fun hc28 => ?_)
 · have hk6 := hc28
   refine xd 1 .z ?_
   have k26'1 := (k26.below hb27).below (below_drew W27)
   refine xb (.e [0] 1) 1 k26'1 ?_
   have hB'8 := Bl.next (Bl.next hB'7 hb27) (below_drew W27)
   refine xe (.r [2, 3] 8) (.tuple #[.slice none 0 0, .int .i64 7]) ?_
   have he : openE kind no l = 7 := by simp [openE, hk1, hk2, hk3, hk4, hk5, hk6]
   exact .inl ⟨by rw [he]; decide, by rw [he], hB'8⟩
 have hk6 := hc28
 have k1'5 := k1'4.below hb27
 refine xb 22 0 k1'5 ?_
 refine xsB 0 (fun _ _ _ _ _ zo zx zy zz V => run_sliceLHA (k := 8) (h := 252) (b := a) (n := l.length) (c := c) (i := 8) (ki := .i64) (j := 252) (kj := .i64) 1 zo zx zy rfl zz rfl (by omega) (by omega) Tryz.underlying22 (by kernel_rfl) V) ?_
 have hB'9 := Bl.next hB'7 hb27
 refine xc 0 (args := #[.slice (cutA a 8 c 1) 244 (c - 8)]) (clone_bytesN (cutA a 8 c 1) 244 (c - 8) ((l.drop 8).take 244) _ (by have := ask1 hk2; simp; omega) ((Bys.cut h rfl 8 252 (by decide) (by have := ask1 hk2; omega)).below hB'9) (by decide)) ?_
 rintro _ W29 ⟨_, rfl, hb29, ho⟩
 have hs29 := (Bl.next hB'7 hb27).size
 have ho'1 := own_mono ho hs29
 unfold OwnB at ho'1
 rw [show ((l.drop 8).take 244).length = 244 from by have := ask1 hk2; simp; omega] at ho'1
 obtain ⟨p, c3, rfl⟩ := (own_sl ho'1).slice
 have hB'10 := Bl.next hB'9 hb29
 exact xe 5 (.tuple #[.slice p 244 c3, .int .i64 0]) (.inr ⟨by simp [openE, hk1, hk2, hk3, hk4, hk5, hk6], _, _, rfl, hB'10, ho'1⟩)
end Go.Proofs.YtolblnjohaooaaaGreatDoor
