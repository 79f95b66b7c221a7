import Derived.Test.YtadpljebgkfeoaaGreatDoorPZC
import Derived.Sort.OwnSortedInts
section
set_option linter.unusedVariables false
set_option linter.unusedSimpArgs false
namespace Go.Proofs
open Go Go.Ab Go.RowKit
set_option maxHeartbeats 1000000
set_option maxRecDepth 100000
set_option linter.unusedSimpArgs false
set_option linter.unusedVariables false
def sortI (l : List Int) : List Int := l.mergeSort fun x y => decide (x ≤ y)
theorem sortI_len (l : List Int) : (sortI l).length = l.length := List.length_mergeSort _
theorem fits_ints {st : Nat → Prop} {w : World} {l : List Int} {e : TypeId} {c : Value} {xs : List Value} (h : RowFits st w (ints l) 1 e c xs) : xs = l.map (Value.int .i64) := by
  have hlen : xs.length = l.length := by rw [h.row.len, ints_len]; omega
  apply List.ext_getElem (by simpa using hlen)
  intro i h1 h2
  have hi : i < (ints l).length := by rw [ints_len]; omega
  have h3 := h.cell i 0 hi (by omega)
  rw [ints_at l i (by omega)] at h3
  simp only [av_zero, Nat.mul_one, Nat.add_zero, cv, List.getD_eq_getElem?_getD, List.getElem?_eq_getElem h1, Option.getD_some] at h3
  generalize xs[i] = q at h3 ⊢
  cases h3
  have : i < l.length := by omega
  simp [this]
theorem ints_fits {st : Nat → Prop} {w : World} {l : List Int} {e : TypeId} {c : Value} (h : RowRep w e 1 c l.length (l.map (Value.int .i64))) : RowFits st w (ints l) 1 e c (l.map (Value.int .i64)) := by
  refine ⟨by simp [ints], by omega, by rw [ints_len]; exact h, by simp [Value.oneCell'], fun i j hi hj => ?_⟩
  rw [ints_len] at hi
  obtain rfl : j = 0 := by omega
  rw [ints_at l i hi]
  have e1 : cv (l.map (Value.int .i64)) (i * 1 + 0) = .int .i64 (l.getD i 0) := by
    simp [cv, List.getD_eq_getElem?_getD, hi]
  rw [e1]
  exact .v _
theorem sort_cc (l : List Int) (b nm : Nat) (e : TypeId) (hl : l.length < 1000000) : CallC Tryz.prog 33 [.own b] [(b, .row (ints l) 1 e)] nm (.tup []) [(b, some (.row (ints (sortI l)) 1 e))] := by
  refine ⟨⟨_, Tryz.func33, by kernel_rfl, by kernel_rfl⟩, fun prov β w cs hn hb hi hv => ?_⟩
  have hlk : ∀ n, updL (listH [(b, Blk.row (ints l) 1 e)]) [(b, some (Blk.row (ints (sortI l)) 1 e))] n = if n = b then some (.row (ints (sortI l)) 1 e) else none := by
    intro n; simp only [updL, upd, listH]; split <;> simp
  have hB := hb b (.row (ints l) 1 e) (by simp [listH])
  obtain ⟨xs, hf⟩ := hB
  obtain rfl := fits_ints hf
  obtain ⟨hlen, hv⟩ := hv
  match cs, hlen with
  | [c], _ =>
  have h1 := hv 0 (by simp)
  simp only [av_zero, cv, List.getD_cons_zero] at h1
  obtain ⟨rfl, _⟩ := h1.own_inv
  have tail : ∀ w', Value.tuple #[] = Value.tuple #[] → w.grownBy w' (blkOf (β b)) → RowRep w' e 1 (β b) (sortI l).length ((sortI l).map (Value.int .i64)) →
      ∃ c β', Ending.returned (Value.tuple #[]) = .returned c ∧ w'.os = w.os ∧ w'.tape = w.tape ∧ w'.output = w.output ∧ w.heap.size ≤ w'.heap.size ∧ Grows β β' ∧ (∀ n, n ≠ nm → β' n = β n) ∧
      (∀ g, g < w.heap.size → (∀ n b', listH [(b, Blk.row (ints l) 1 e)] n = some b' → n ∈ [(b, some (Blk.row (ints (sortI l)) 1 e))].map (·.1) → blkOf (β n) ≠ some g) → w'.heap[g]? = w.heap[g]?) ∧
      SimV (stb (fun g => prov g ∨ w.heap.size ≤ g) w' β' (updL (listH [(b, Blk.row (ints l) 1 e)]) [(b, some (Blk.row (ints (sortI l)) 1 e))])) β' w' (.tup []) c ∧
      (∀ n b', updL (listH [(b, Blk.row (ints l) 1 e)]) [(b, some (Blk.row (ints (sortI l)) 1 e))] n = some b' → n ∈ [(b, some (Blk.row (ints (sortI l)) 1 e))].map (·.1) → BlkRep (stb (fun g => prov g ∨ w.heap.size ≤ g) w' β' (updL (listH [(b, Blk.row (ints l) 1 e)]) [(b, some (Blk.row (ints (sortI l)) 1 e))])) β' w' b' (β' n) ∧
        ∀ g, blkOf (β' n) = some g → w.heap.size ≤ g ∨ ∃ m b', listH [(b, Blk.row (ints l) 1 e)] m = some b' ∧ m ∈ [(b, some (Blk.row (ints (sortI l)) 1 e))].map (·.1) ∧ blkOf (β m) = some g) ∧
      Inj β' (updL (listH [(b, Blk.row (ints l) 1 e)]) [(b, some (Blk.row (ints (sortI l)) 1 e))]) := by
    intro w' _ hg hr
    refine ⟨_, β, rfl, hg.os, hg.tape, hg.output, hg.size, Grows.refl _, fun _ _ => rfl, fun g hgl hno => ?_, .pure (.tup [] [] rfl (fun j hj => by simp at hj)), fun n b' hb' _ => ?_, ?_⟩
    · exact hg.block g hgl (fun e' => hno b (.row (ints l) 1 e) (by simp [listH]) (by simp) e'.symm)
    · rw [hlk] at hb'
      split at hb'
      · rename_i hnb; subst hnb
        simp at hb'; subst hb'
        exact ⟨⟨_, ints_fits hr⟩, fun g hgb => .inr ⟨n, .row (ints l) 1 e, by simp [listH], by simp, hgb⟩⟩
      · cases hb'
    · intro n m b1 b2 g h1 h2 _ _
      rw [hlk] at h1 h2
      split at h1
      · split at h2
        · simp_all
        · cases h2
      · cases h1
  rcases hf.row with ⟨a, hc, h0, hx⟩ | ⟨g, cap, hc, h0, hrow⟩
  · have hnil : l = [] := by rw [ints_len] at h0; exact List.eq_nil_of_length_eq_zero h0
    subst hnil
    rw [hc]
    refine (Tryz.slices_Sort_int_none a 0 w).mono fun e' w' ⟨he, hw⟩ => ?_
    subst he; subst hw
    have := tail w' rfl ⟨rfl, rfl, rfl, Nat.le_refl _, fun _ _ _ => rfl⟩ (.inl ⟨a, hc, by simp [sortI], by simp [sortI]⟩)
    exact this
  · rcases hrow.2 with ⟨h', _⟩ | ⟨g', cap', cur, h', _, hg, hn1, hn2, hn3, hn4⟩
    · rw [hc] at h'; cases h'
    · rw [hc] at h'
      simp only [Value.slice.injEq, Option.some.injEq, Addr.mk.injEq, and_true, true_and] at h'
      obtain ⟨rfl, rfl⟩ := h'
      rw [ints_len] at hn1 hn4 hc
      rw [Nat.mul_one] at hn4
      rw [hc]
      have hlt : g < w.heap.size := (Array.getElem?_eq_some_iff.1 hg).1
      refine (Tryz.slices_Sort_int g 0 cap l w (holds_of_blockI hg hn4) hlt (by omega)).mono fun e' w' ⟨he, n, os, hw⟩ => ?_
      subst he; subst hw
      refine tail _ rfl ?_ ?_
      · have : blkOf (β b) = some g := by rw [hc]; simp [blkOf]; omega
        rw [this]
        exact grownBy_sortedI _
      · refine .inr ⟨g, cap, by rw [hc, sortI_len], h0, ?_⟩
        have := ownsRow_sortedI (w := w) (base := 0) (g := g) (cap := cap) (n := n) (e := e) (os := os) (cur := cur) (ss := l) (ts := sortI l) (sortI_len l) (Nat.zero_le _) hg hn1 hn2 hn3
        rw [hc, sortI_len]
        exact this
end Go.Proofs
end
section
set_option linter.unusedVariables false
set_option linter.unusedSimpArgs false
namespace Go.Proofs
open Go Go.Ab Go.RowKit
set_option maxHeartbeats 1000000
theorem compact_len (l : List Int) : (Lib.compact l).length ≤ l.length := by
  unfold Lib.compact Lib.compactUpTo
  rw [List.length_map]
  exact Nat.le_trans (List.length_filter_le _ _) (by simp)
theorem compact_cc (l : List Int) (b nm : Nat) (e : TypeId) (hnb : nm ≠ b) (hl : l.length < 1000000) : CallC Tryz.prog 34 [.own b] [(b, .row (ints l) 1 e)] nm (.own nm) [(b, none), (nm, some (.row (ints (Lib.compact l)) 1 e))] := by
  refine ⟨⟨_, Tryz.func34, by kernel_rfl, by kernel_rfl⟩, fun prov β w cs hn hb hi hv => ?_⟩
  have hlk : ∀ n, updL (listH [(b, Blk.row (ints l) 1 e)]) [(b, none), (nm, some (Blk.row (ints (Lib.compact l)) 1 e))] n = if n = nm then some (.row (ints (Lib.compact l)) 1 e) else none := by
    intro n; simp only [updL, upd, listH]; split
    · rfl
    · split <;> rfl
  have hB := hb b (.row (ints l) 1 e) (by simp [listH])
  obtain ⟨xs, hf⟩ := hB
  obtain rfl := fits_ints hf
  obtain ⟨hlen, hv⟩ := hv
  match cs, hlen with
  | [c], _ =>
  have h1 := hv 0 (by simp)
  simp only [av_zero, cv, List.getD_cons_zero] at h1
  obtain ⟨rfl, _⟩ := h1.own_inv
  have hgr : ∀ c', Grows β (upd β nm c') := fun c' k hk => by
    unfold upd; split
    · rename_i h; subst h; exact absurd hn hk
    · rfl
  have tail : ∀ w' c', (∃ a n cap, c' = .slice a n cap) → w.grownBy w' (blkOf (β b)) → RowRep w' e 1 c' (Lib.compact l).length ((Lib.compact l).map (Value.int .i64)) → (∀ g, blkOf c' = some g → blkOf (β b) = some g) →
      ∃ c β', Ending.returned c' = .returned c ∧ w'.os = w.os ∧ w'.tape = w.tape ∧ w'.output = w.output ∧ w.heap.size ≤ w'.heap.size ∧ Grows β β' ∧ (∀ n, n ≠ nm → β' n = β n) ∧
      (∀ g, g < w.heap.size → (∀ n b', listH [(b, Blk.row (ints l) 1 e)] n = some b' → n ∈ [(b, none), (nm, some (Blk.row (ints (Lib.compact l)) 1 e))].map (·.1) → blkOf (β n) ≠ some g) → w'.heap[g]? = w.heap[g]?) ∧
      SimV (stb (fun g => prov g ∨ w.heap.size ≤ g) w' β' (updL (listH [(b, Blk.row (ints l) 1 e)]) [(b, none), (nm, some (Blk.row (ints (Lib.compact l)) 1 e))])) β' w' (.own nm) c ∧
      (∀ n b', updL (listH [(b, Blk.row (ints l) 1 e)]) [(b, none), (nm, some (Blk.row (ints (Lib.compact l)) 1 e))] n = some b' → n ∈ [(b, none), (nm, some (Blk.row (ints (Lib.compact l)) 1 e))].map (·.1) → BlkRep (stb (fun g => prov g ∨ w.heap.size ≤ g) w' β' (updL (listH [(b, Blk.row (ints l) 1 e)]) [(b, none), (nm, some (Blk.row (ints (Lib.compact l)) 1 e))])) β' w' b' (β' n) ∧
        ∀ g, blkOf (β' n) = some g → w.heap.size ≤ g ∨ ∃ m b', listH [(b, Blk.row (ints l) 1 e)] m = some b' ∧ m ∈ [(b, none), (nm, some (Blk.row (ints (Lib.compact l)) 1 e))].map (·.1) ∧ blkOf (β m) = some g) ∧
      Inj β' (updL (listH [(b, Blk.row (ints l) 1 e)]) [(b, none), (nm, some (Blk.row (ints (Lib.compact l)) 1 e))]) := by
    intro w' c' ⟨a, n0, cap, hc'⟩ hg hr hbk
    refine ⟨_, upd β nm c', rfl, hg.os, hg.tape, hg.output, hg.size, hgr c', fun n hne => by simp [upd, hne], fun g hgl hno => ?_, ?_, fun n b' hb' _ => ?_, ?_⟩
    · exact hg.block g hgl (fun e' => hno b (.row (ints l) 1 e) (by simp [listH]) (by simp) e'.symm)
    · subst hc'; exact .own nm (by simp [upd])
    · rw [hlk] at hb'
      split at hb'
      · rename_i hnn; subst hnn
        simp at hb'; subst hb'
        have hu : upd β n c' n = c' := by simp [upd]
        rw [hu]
        exact ⟨⟨_, ints_fits hr⟩, fun g hgb => .inr ⟨b, .row (ints l) 1 e, by simp [listH], by simp, hbk g hgb⟩⟩
      · cases hb'
    · intro n m b1 b2 g h1 h2 _ _
      rw [hlk] at h1 h2
      split at h1
      · split at h2
        · simp_all
        · cases h2
      · cases h1
  rcases hf.row with ⟨a, hc, h0, hx⟩ | ⟨g, cap, hc, h0, hrow⟩
  · have hnil : l = [] := by rw [ints_len] at h0; exact List.eq_nil_of_length_eq_zero h0
    subst hnil
    rw [hc]
    refine (Tryz.slices_Compact_int_empty a 0 w).mono fun e' w' ⟨he, hw⟩ => ?_
    subst he; subst hw
    exact tail w' _ ⟨_, _, _, rfl⟩ ⟨rfl, rfl, rfl, Nat.le_refl _, fun _ _ _ => rfl⟩ (.inl ⟨a, rfl, rfl, rfl⟩) (fun g hg => by rw [hc]; exact hg)
  · rcases hrow.2 with ⟨h', _⟩ | ⟨g', cap', cur, h', _, hg, hn1, hn2, hn3, hn4⟩
    · rw [hc] at h'; cases h'
    · rw [hc] at h'
      simp only [Value.slice.injEq, Option.some.injEq, Addr.mk.injEq, and_true, true_and] at h'
      obtain ⟨rfl, rfl⟩ := h'
      rw [ints_len] at hn1 hn4 hc
      rw [Nat.mul_one] at hn4
      rw [hc]
      have hcl : (Lib.compact l).length ≤ l.length := compact_len l
      refine (Tryz.slices_Compact_int g 0 cap l w (holds_of_blockI hg hn4) (by omega) hn1).mono fun e' w' ⟨he, q, hw⟩ => ?_
      subst he
      have hw2 : w' = Sort.grow (Sort.putRow (Value.int .i64) (Sort.ahead w q) g 0 (Lib.compact l ++ List.replicate (l.length - (Lib.compact l).length) 0).toArray) #[] := by rw [hw, Sort.grow_empty]
      subst hw2
      have hbk : blkOf (β b) = some g := by rw [hc]; simp [blkOf]; omega
      refine tail _ _ ⟨_, _, _, rfl⟩ (by rw [hbk]; exact grownBy_sortedI _) (.inr ⟨g, cap, rfl, h0, by simp, .inr ⟨g, cap, _, rfl, Nat.zero_le _, heap_sortedI _ hg, by omega, hn2, by simp [Sort.putCells, hn3], ?_⟩⟩) (fun g' hg' => ?_)
      · rw [Nat.mul_one]
        have ht := take_putCellsI cur (Lib.compact l ++ List.replicate (l.length - (Lib.compact l).length) 0) (by simp; omega)
        have ht2 := congrArg (List.take (Lib.compact l).length) ht
        rw [List.take_take, Nat.min_eq_left (by simp)] at ht2
        rw [ht2, List.map_append]
        exact List.take_left' (by simp)
      · rw [hbk]
        simp only [blkOf] at hg'
        split at hg'
        · cases hg'
        · exact hg'
end Go.Proofs
end
section
set_option linter.unusedVariables false
set_option linter.unusedSimpArgs false
namespace Go.Proofs
open Go Go.Ab
set_option maxHeartbeats 4000000
set_option maxRecDepth 100000
set_option linter.unusedSimpArgs false
set_option linter.unusedVariables false
attribute [local irreducible] Awp aops aopsL Go.Ab.Pure PureOwn
@[go_sem] theorem Tryz.co53 : Tryz.prog.cellsOf 53 = 3 := by kernel_rfl
@[go_sem] theorem Tryz.ag53 : isAggB Tryz.prog 53 = true := by kernel_rfl
@[go_sem] theorem Tryz.co78 : Tryz.prog.cellsOf 78 = 8 := by kernel_rfl
@[go_sem] theorem Tryz.ag78 : isAggB Tryz.prog 78 = true := by kernel_rfl
@[go_sem] theorem Tryz.co43 : Tryz.prog.cellsOf 43 = 8 := by kernel_rfl
@[go_sem] theorem Tryz.ag43 : isAggB Tryz.prog 43 = true := by kernel_rfl
structure By where
  nm : ByteArray
  len : Int
  wid : Int
structure Sty where
  item : ByteArray
  bay : ByteArray
  x : Int
  y : Int
  len : Int
  wid : Int
  a : Int
  b : Int
def By.cells (q : By) : List AV := [.v (.string q.nm), .v (.int .i64 q.len), .v (.int .i64 q.wid)]
def By.av (q : By) : AV := .agg q.cells
def Sty.cells (q : Sty) : List AV := [.v (.string q.item), .v (.string q.bay), .v (.int .i64 q.x), .v (.int .i64 q.y), .v (.int .i64 q.len), .v (.int .i64 q.wid), .v (.int .i64 q.a), .v (.int .i64 q.b)]
def Sty.av (q : Sty) : AV := .agg q.cells
attribute [go_sem] By.cells By.av Sty.cells Sty.av
def bys (l : List By) : List (List AV) := l.map By.cells
def stys (l : List Sty) : List (List AV) := l.map Sty.cells
@[go_sem] theorem bys_len (l : List By) : (bys l).length = l.length := by simp [bys]
@[go_sem] theorem stys_len (l : List Sty) : (stys l).length = l.length := by simp [stys]
def zeroBy : By := ⟨⟨#[]⟩, 0, 0⟩
def zeroSty : Sty := ⟨⟨#[]⟩, ⟨#[]⟩, 0, 0, 0, 0, 0, 0⟩
theorem bys_at (l : List By) (i : Nat) (h : i < l.length) : (bys l).getD i [] = (l.getD i zeroBy).cells := by
  simp [bys, List.getD_eq_getElem?_getD, h]
theorem stys_at (l : List Sty) (i : Nat) (h : i < l.length) : (stys l).getD i [] = (l.getD i zeroSty).cells := by
  simp [stys, List.getD_eq_getElem?_getD, h]
theorem stys_one (l : List Sty) : ∀ y ∈ stys l, y.length = 8 := by
  simp [stys, Sty.cells]
theorem bys_one (l : List By) : ∀ y ∈ bys l, y.length = 3 := by
  simp [bys, By.cells]
def idxF {α : Type} (p : α → Bool) (l : List α) : Int := if l.findIdx p < l.length then (l.findIdx p : Int) else -1
theorem idxF_in {α : Type} {p : α → Bool} {l : List α} {d : α} {i : Nat} (h : i < l.length) (hp : p (l.getD i d) = true) (hj : ∀ j, j < i → p (l.getD j d) = false) : idxF p l = i := by
  have e : l.findIdx p = i := by
    rw [List.findIdx_eq h]
    refine ⟨by simpa [List.getD_eq_getElem?_getD, h] using hp, fun j hji => ?_⟩
    have := hj j hji
    have hjl : j < l.length := by omega
    simpa [List.getD_eq_getElem?_getD, hjl] using this
  unfold idxF
  rw [e, if_pos h]
theorem idxF_out {α : Type} {p : α → Bool} {l : List α} {d : α} {i : Nat} (h : l.length ≤ i) (hj : ∀ j, j < i → p (l.getD j d) = false) : idxF p l = -1 := by
  have e : l.findIdx p = l.length := by
    rw [List.findIdx_eq_length]
    intro x hx
    obtain ⟨j, hjl, rfl⟩ := List.getElem_of_mem hx
    have := hj j (by omega)
    simpa [List.getD_eq_getElem?_getD, hjl] using this
  unfold idxF
  rw [e, if_neg (by omega)]
def sideB (n : Int) : Bool := decide (1 ≤ n) && decide (n ≤ 524288)
theorem side_ok (n : Int) : Pure Tryz.prog 50 [.v (.int .i64 n)] (.v (.bool (sideB n))) := by
  refine fn_pure Tryz.F50 (Nat.le_of_ble_eq_true rfl) ?_; unfold Tryz.ac50
  repeat' (first
    | (apply Awp.sreg; (case hn => (simp only [List.length_cons, List.length_nil, Nat.reduceAdd] <;> rfl)))
    | (refine st_nil ?_)
    | (apply st_a; (case hc => rfl); (case he => (simp only [go_sem, *] <;> rfl)); (case hu => (simp only [updL_nil, updL_cons] <;> rfl)); (case hp => first | trivial))
    | (apply st_m; (case hc => rfl); (case hg => (simp only [go_sem, *] <;> rfl)); (case he => (intro hQz; (try simp only [wantB_t, wantB_f, Bool.and_eq_true, Bool.not_eq_true', Bool.not_true, Bool.not_false, and_true, true_and] at hQz); simp only [go_sem, *] <;> rfl)); (case hp => (intro hQz; (try simp only [wantB_t, wantB_f, Bool.and_eq_true, Bool.not_eq_true', Bool.or_eq_false_iff, decide_eq_true_eq, decide_eq_false_iff_not, beq_iff_eq, beq_eq_false_iff_ne, bne_iff_ne, bne_eq_false_iff_eq, Int.not_lt, Int.not_le, Int.ofNat_lt, Int.ofNat_le] at hQz); first | trivial)))
    | (refine Awp.ret ?_; try simp only [go_sem, *]))
  all_goals repeat' (first | exact Lower.bool (by first | rfl | (simp only [sideB, Bool.true_and, Bool.false_and, Bool.and_true, Bool.and_false, Bool.true_or, Bool.false_or, reduceIte, Bool.false_eq_true, *]; done) | (simp only [sideB, reduceIte, Bool.false_eq_true, *] <;> rfl) | (simp [sideB]; done) | (simp_all [sideB]; done) | omega))
def cutB (a la b lb : Int) : Bool := decide (a < IntKind.i64.wrap (b + lb)) && decide (b < IntKind.i64.wrap (a + la))
theorem cut_ok (a la b lb : Int) : Pure Tryz.prog 93 [.v (.int .i64 a), .v (.int .i64 la), .v (.int .i64 b), .v (.int .i64 lb)] (.v (.bool (cutB a la b lb))) := by
  refine fn_pure Tryz.F93 (Nat.le_of_ble_eq_true rfl) ?_; unfold Tryz.ac93
  repeat' (first
    | (apply Awp.sreg; (case hn => (simp only [List.length_cons, List.length_nil, Nat.reduceAdd] <;> rfl)))
    | (refine st_nil ?_)
    | (apply st_a; (case hc => rfl); (case he => (simp only [go_sem, *] <;> rfl)); (case hu => (simp only [updL_nil, updL_cons] <;> rfl)); (case hp => first | trivial))
    | (apply st_m; (case hc => rfl); (case hg => (simp only [go_sem, *] <;> rfl)); (case he => (intro hQz; (try simp only [wantB_t, wantB_f, Bool.and_eq_true, Bool.not_eq_true', Bool.not_true, Bool.not_false, and_true, true_and] at hQz); simp only [go_sem, *] <;> rfl)); (case hp => (intro hQz; (try simp only [wantB_t, wantB_f, Bool.and_eq_true, Bool.not_eq_true', Bool.or_eq_false_iff, decide_eq_true_eq, decide_eq_false_iff_not, beq_iff_eq, beq_eq_false_iff_ne, bne_iff_ne, bne_eq_false_iff_eq, Int.not_lt, Int.not_le, Int.ofNat_lt, Int.ofNat_le] at hQz); first | trivial)))
    | (refine Awp.ret ?_; try simp only [go_sem, *]))
  all_goals repeat' (first | exact Lower.bool (by first | rfl | (simp only [cutB, Bool.true_and, Bool.false_and, Bool.and_true, Bool.and_false, Bool.true_or, Bool.false_or, reduceIte, Bool.false_eq_true, *]; done) | (simp only [cutB, reduceIte, Bool.false_eq_true, *] <;> rfl) | (simp [cutB]; done) | (simp_all [cutB]; done) | omega))
def overB (p q : Sty) : Bool := (p.bay.toList == q.bay.toList) && decide (p.a < q.b) && decide (q.a < p.b) && cutB p.x p.len q.x q.len && cutB p.y p.wid q.y q.wid
theorem over_ok (p q : Sty) : Pure Tryz.prog 71 [p.av, q.av] (.v (.bool (overB p q))) := by
  refine fn_pure Tryz.F71 (Nat.le_of_ble_eq_true rfl) ?_; unfold Tryz.ac71
  repeat' (first
    | (apply Awp.sreg; (case hn => (simp only [List.length_cons, List.length_nil, Nat.reduceAdd] <;> rfl)))
    | (refine st_nil ?_)
    | (apply st_a; (case hc => rfl); (case he => (simp only [go_sem, *] <;> rfl)); (case hu => (simp only [updL_nil, updL_cons] <;> rfl)); (case hp => first | trivial))
    | (apply st_m; (case hc => rfl); (case hg => (simp only [go_sem, *] <;> rfl)); (case he => (intro hQz; (try simp only [wantB_t, wantB_f, Bool.and_eq_true, Bool.not_eq_true', Bool.not_true, Bool.not_false, and_true, true_and] at hQz); simp only [go_sem, *] <;> rfl)); (case hp => (intro hQz; (try simp only [wantB_t, wantB_f, Bool.and_eq_true, Bool.not_eq_true', Bool.or_eq_false_iff, decide_eq_true_eq, decide_eq_false_iff_not, beq_iff_eq, beq_eq_false_iff_ne, bne_iff_ne, bne_eq_false_iff_eq, Int.not_lt, Int.not_le, Int.ofNat_lt, Int.ofNat_le] at hQz); first | trivial)))
    | (apply st_mc; (case hop => rfl); (case hg => (simp only [go_sem, *] <;> rfl)); (case hc => (intro hQz; (try simp only [wantB_t, wantB_f, Bool.and_eq_true, Bool.not_eq_true', Bool.not_true, Bool.not_false, and_true, true_and] at hQz); simp only [go_sem, *] <;> rfl)); (case hl => (intro hQz; (try simp only [wantB_t, wantB_f, Bool.and_eq_true, Bool.not_eq_true', Bool.not_true, Bool.not_false, and_true, true_and] at hQz); simp only [go_sem, *] <;> rfl)); (case hn => (intro hQz; (try simp only [wantB_t, wantB_f, Bool.and_eq_true, Bool.not_eq_true', Bool.not_true, Bool.not_false, and_true, true_and] at hQz); simp only [go_sem, *] <;> rfl)); (case hp => intro hQz; first | exact cut_ok _ _ _ _ | (have hXz := cut_ok _ _ _ _; simp only [go_sem, *] at hXz; exact hXz)))
    | (refine Awp.ret ?_; try simp only [go_sem, *]))
  all_goals repeat' (first | exact Lower.bool (by first | rfl | (simp only [overB, Bool.true_and, Bool.false_and, Bool.and_true, Bool.and_false, Bool.true_or, Bool.false_or, reduceIte, Bool.false_eq_true, *]; done) | (simp only [overB, reduceIte, Bool.false_eq_true, *] <;> rfl) | (simp [overB]; done) | (simp_all [overB]; done) | omega))
theorem nameEq_ok (nm : ByteArray) (q : By) : Pure Tryz.prog 68 [q.av, .rp [.v (.string nm)]] (.v (.bool (q.nm.toList == nm.toList))) := by
  refine fn_pure Tryz.F68 (Nat.le_of_ble_eq_true rfl) ?_; unfold Tryz.ac68
  repeat' (first
    | (apply Awp.sreg; (case hn => (simp only [List.length_cons, List.length_nil, Nat.reduceAdd] <;> rfl)))
    | (refine st_nil ?_)
    | (apply st_a; (case hc => rfl); (case he => (simp only [go_sem, *] <;> rfl)); (case hu => (simp only [updL_nil, updL_cons] <;> rfl)); (case hp => first | trivial))
    | (refine Awp.ret ?_; try simp only [go_sem, *]))
  all_goals repeat' (first | exact Lower.bool (by first | rfl | (simp only [true_and, Bool.true_and, Bool.false_and, Bool.and_true, Bool.and_false, Bool.true_or, Bool.false_or, reduceIte, Bool.false_eq_true, *]; done) | (simp only [true_and, reduceIte, Bool.false_eq_true, *] <;> rfl) | (simp [true_and]; done) | (simp_all [true_and]; done) | omega))
theorem overC_ok (p q : Sty) : Pure Tryz.prog 70 [q.av, .rp p.cells] (.v (.bool (overB p q))) := by
  refine fn_pure Tryz.F70 (Nat.le_of_ble_eq_true rfl) ?_; unfold Tryz.ac70
  repeat' (first
    | (apply Awp.sreg; (case hn => (simp only [List.length_cons, List.length_nil, Nat.reduceAdd] <;> rfl)))
    | (refine st_nil ?_)
    | (apply st_a; (case hc => rfl); (case he => (simp only [go_sem, *] <;> rfl)); (case hu => (simp only [updL_nil, updL_cons] <;> rfl)); (case hp => first | trivial))
    | (apply st_c; (case hc => (simp only [go_sem, *] <;> rfl)); (case hl => (simp only [go_sem, *] <;> rfl)); (case hn => (simp only [go_sem, *] <;> rfl)); (case hp => first | exact over_ok _ _ | (have hXz := over_ok _ _; simp only [go_sem, *] at hXz; exact hXz)))
    | (refine Awp.ret ?_; try simp only [go_sem, *]))
  all_goals repeat' (first | exact Lower.bool (by first | rfl | (simp only [true_and, Bool.true_and, Bool.false_and, Bool.and_true, Bool.and_false, Bool.true_or, Bool.false_or, reduceIte, Bool.false_eq_true, *]; done) | (simp only [true_and, reduceIte, Bool.false_eq_true, *] <;> rfl) | (simp [true_and]; done) | (simp_all [true_and]; done) | omega))
theorem indexB_ok (l : List By) (g : Nat) (cs : List AV) (p : By → Bool) (hl : l.length < 1000000) (hp : ∀ x : By, Pure Tryz.prog g [x.av, .rp cs] (.v (.bool (p x)))) :
    Pure Tryz.prog 67 [.sl (bys l), .fn g [.rp cs]] (.v (.int .i64 (idxF p l))) := by
  refine fn_pure Tryz.F67 (Nat.le_of_ble_eq_true rfl) ?_; unfold Tryz.ac67
  repeat' (first
    | (apply Awp.sreg; (case hn => (simp only [List.length_cons, List.length_nil, Nat.reduceAdd] <;> rfl)))
    | (refine st_nil ?_)
    | (apply st_a; (case hc => rfl); (case he => (simp only [go_sem, *] <;> rfl)); (case hu => (simp only [updL_nil, updL_cons] <;> rfl)); (case hp => first | trivial))
    | refine Awp.block ?_
    | refine Awp.seq ?_)
  refine Awp.loop (fun i : Nat => i ≤ l.length ∧ ∀ j, j < i → p (l.getD j zeroBy) = false) 40 (fun i => mkS [(0, .sl (bys l)), (1, .fn g [.rp cs]), (7, .v (.int .i64 l.length)), (8, .v (.int .i64 i))] []) (fun i => l.length - i) 0 (by simp) ?_ ?_
  · (apply Ghost.mk [] []; (case hdead => rfl); (case hinj => rfl); (case hV => (simp only [go_sem, *]) <;> (repeat' (first | refine And.intro ?_ ?_ | exact View.int (by first | rfl | omega | (simp; done) | (rw [wrap_i64] <;> (try simp only [Int.natCast_add]) <;> omega) | (simp [*]; done)) | (refine View.fnF ?_; (simp [AV.flat]; done))))); (case hB => (simp only [go_sem, *]) <;> (repeat' (first | skip; done))))
  · intro i ⟨hi, hj⟩
    by_cases hlt : i < l.length
    · have hlt' : (i : Int) < l.length := by omega
      have hat := bys_at l i hlt
      have hz : ((l.getD i zeroBy).cells).length = 3 := rfl
      have hpi := hp (l.getD i zeroBy)
      repeat' (first
    | (apply Awp.sreg; (case hn => (simp only [List.length_cons, List.length_nil, Nat.reduceAdd] <;> rfl)))
    | (refine st_nil ?_)
    | (apply st_a; (case hc => rfl); (case he => (simp only [go_sem, *] <;> rfl)); (case hu => (simp only [updL_nil, updL_cons] <;> rfl)); (case hp => first | trivial | omega))
    | (apply st_c; (case hc => (simp only [go_sem, *] <;> rfl)); (case hl => (simp only [go_sem, *] <;> rfl)); (case hn => (simp only [go_sem, *] <;> rfl)); (case hp => first | exact hpi | (have hXz := hpi; simp only [go_sem, *] at hXz; exact hXz)))
    | (apply Awp.reg; (case hn => (simp only [List.length_cons, List.length_nil, Nat.reduceAdd] <;> rfl)))
    | (refine Awp.ret ?_; try simp only [go_sem, *])
    | (refine Awp.skip ?_; try simp only [go_sem, *])
    | refine Awp.block ?_
    | (apply Awp.cond; (case hc => (simp only [go_sem, *] <;> rfl)); all_goals (intro hg; (try simp only [Bool.not_true, Bool.not_false, reduceCtorEq] at hg)))
    | refine Awp.seq ?_)
      · exact Lower.int (idxF_in hlt hg hj).symm
      · refine ⟨i + 1, ⟨by omega, ltSucc hj hg⟩, by omega, ?_⟩
        (apply Ghost.mk [] []; (case hdead => rfl); (case hinj => rfl); (case hV => (simp only [go_sem, *]) <;> (repeat' (first | refine And.intro ?_ ?_ | exact View.int (by first | rfl | omega | (simp; done) | (rw [wrap_i64] <;> (try simp only [Int.natCast_add]) <;> omega) | (simp [*]; done)) | (refine View.fnF ?_; (simp [AV.flat]; done))))); (case hB => (simp only [go_sem, *]) <;> (repeat' (first | skip; done))))
    · have hlt' : ¬ (i : Int) < l.length := by omega
      repeat' (first
    | (apply Awp.sreg; (case hn => (simp only [List.length_cons, List.length_nil, Nat.reduceAdd] <;> rfl)))
    | (refine st_nil ?_)
    | (apply st_a; (case hc => rfl); (case he => (simp only [go_sem, *] <;> rfl)); (case hu => (simp only [updL_nil, updL_cons] <;> rfl)); (case hp => first | trivial))
    | (refine Awp.ret ?_; try simp only [go_sem, *])
    | (refine Awp.exit ?_; try simp only [go_sem, *])
    | (apply Awp.cond; (case hc => (simp only [go_sem, *] <;> rfl)); all_goals (intro hg; (try simp only [Bool.not_true, Bool.not_false, reduceCtorEq] at hg); (try have hg' := hg); (try simp only [decide_eq_true_eq, decide_eq_false_iff_not, Bool.and_eq_true, Bool.or_eq_false_iff, bne_iff_ne, bne_eq_false_iff_eq, beq_iff_eq, beq_eq_false_iff_ne, Int.not_lt, Int.not_le, Int.ofNat_lt, Int.ofNat_le, Int.natCast_inj] at hg')))
    | refine Awp.seq ?_)
      exact Lower.int (idxF_out (Nat.le_of_not_lt hlt) hj).symm
theorem indexS_ok2 (l : List Sty) (g : Nat) (cs : List AV) (p : Sty → Bool) (hl : l.length < 1000000) (hp : ∀ x : Sty, Pure Tryz.prog g [x.av, .rp cs] (.v (.bool (p x)))) :
    Pure Tryz.prog 92 [.sl (stys l), .fn g [.rp cs]] (.v (.int .i64 (idxF p l))) := by
  refine fn_pure Tryz.F92 (Nat.le_of_ble_eq_true rfl) ?_; unfold Tryz.ac92
  repeat' (first
    | (apply Awp.sreg; (case hn => (simp only [List.length_cons, List.length_nil, Nat.reduceAdd] <;> rfl)))
    | (refine st_nil ?_)
    | (apply st_a; (case hc => rfl); (case he => (simp only [go_sem, *] <;> rfl)); (case hu => (simp only [updL_nil, updL_cons] <;> rfl)); (case hp => first | trivial))
    | refine Awp.block ?_
    | refine Awp.seq ?_)
  refine Awp.loop (fun i : Nat => i ≤ l.length ∧ ∀ j, j < i → p (l.getD j zeroSty) = false) 40 (fun i => mkS [(0, .sl (stys l)), (1, .fn g [.rp cs]), (7, .v (.int .i64 l.length)), (8, .v (.int .i64 i))] []) (fun i => l.length - i) 0 (by simp) ?_ ?_
  · (apply Ghost.mk [] []; (case hdead => rfl); (case hinj => rfl); (case hV => (simp only [go_sem, *]) <;> (repeat' (first | refine And.intro ?_ ?_ | exact View.int (by first | rfl | omega | (simp; done) | (rw [wrap_i64] <;> (try simp only [Int.natCast_add]) <;> omega) | (simp [*]; done)) | (refine View.fnF ?_; (simp [AV.flat]; done))))); (case hB => (simp only [go_sem, *]) <;> (repeat' (first | skip; done))))
  · intro i ⟨hi, hj⟩
    by_cases hlt : i < l.length
    · have hlt' : (i : Int) < l.length := by omega
      have hat := stys_at l i hlt
      have hz : ((l.getD i zeroSty).cells).length = 8 := rfl
      have hpi := hp (l.getD i zeroSty)
      repeat' (first
    | (apply Awp.sreg; (case hn => (simp only [List.length_cons, List.length_nil, Nat.reduceAdd] <;> rfl)))
    | (refine st_nil ?_)
    | (apply st_a; (case hc => rfl); (case he => (simp only [go_sem, *] <;> rfl)); (case hu => (simp only [updL_nil, updL_cons] <;> rfl)); (case hp => first | trivial | omega))
    | (apply st_c; (case hc => (simp only [go_sem, *] <;> rfl)); (case hl => (simp only [go_sem, *] <;> rfl)); (case hn => (simp only [go_sem, *] <;> rfl)); (case hp => first | exact hpi | (have hXz := hpi; simp only [go_sem, *] at hXz; exact hXz)))
    | (apply Awp.reg; (case hn => (simp only [List.length_cons, List.length_nil, Nat.reduceAdd] <;> rfl)))
    | (refine Awp.ret ?_; try simp only [go_sem, *])
    | (refine Awp.skip ?_; try simp only [go_sem, *])
    | refine Awp.block ?_
    | (apply Awp.cond; (case hc => (simp only [go_sem, *] <;> rfl)); all_goals (intro hg; (try simp only [Bool.not_true, Bool.not_false, reduceCtorEq] at hg)))
    | refine Awp.seq ?_)
      · exact Lower.int (idxF_in hlt hg hj).symm
      · refine ⟨i + 1, ⟨by omega, ltSucc hj hg⟩, by omega, ?_⟩
        (apply Ghost.mk [] []; (case hdead => rfl); (case hinj => rfl); (case hV => (simp only [go_sem, *]) <;> (repeat' (first | refine And.intro ?_ ?_ | exact View.int (by first | rfl | omega | (simp; done) | (rw [wrap_i64] <;> (try simp only [Int.natCast_add]) <;> omega) | (simp [*]; done)) | (refine View.fnF ?_; (simp [AV.flat]; done))))); (case hB => (simp only [go_sem, *]) <;> (repeat' (first | skip; done))))
    · have hlt' : ¬ (i : Int) < l.length := by omega
      repeat' (first
    | (apply Awp.sreg; (case hn => (simp only [List.length_cons, List.length_nil, Nat.reduceAdd] <;> rfl)))
    | (refine st_nil ?_)
    | (apply st_a; (case hc => rfl); (case he => (simp only [go_sem, *] <;> rfl)); (case hu => (simp only [updL_nil, updL_cons] <;> rfl)); (case hp => first | trivial))
    | (refine Awp.ret ?_; try simp only [go_sem, *])
    | (refine Awp.exit ?_; try simp only [go_sem, *])
    | (apply Awp.cond; (case hc => (simp only [go_sem, *] <;> rfl)); all_goals (intro hg; (try simp only [Bool.not_true, Bool.not_false, reduceCtorEq] at hg); (try have hg' := hg); (try simp only [decide_eq_true_eq, decide_eq_false_iff_not, Bool.and_eq_true, Bool.or_eq_false_iff, bne_iff_ne, bne_eq_false_iff_eq, beq_iff_eq, beq_eq_false_iff_ne, Int.not_lt, Int.not_le, Int.ofNat_lt, Int.ofNat_le, Int.natCast_inj] at hg')))
    | refine Awp.seq ?_)
      exact Lower.int (idxF_out (Nat.le_of_not_lt hlt) hj).symm
theorem idxF_any {α : Type} (p : α → Bool) (l : List α) : decide (0 ≤ idxF p l) = l.any p := by
  unfold idxF
  by_cases h : l.findIdx p < l.length
  · rw [if_pos h]
    have h2 := List.findIdx_getElem (w := h)
    have h3 : l.any p = true := List.any_eq_true.2 ⟨_, List.getElem_mem h, h2⟩
    rw [h3, decide_eq_true_eq]
    omega
  · rw [if_neg h]
    have h3 : l.any p = false := by
      rw [Bool.eq_false_iff]
      intro h4
      obtain ⟨x, hx, hpx⟩ := List.any_eq_true.1 h4
      exact h (List.findIdx_lt_length_of_exists ⟨x, hx, hpx⟩)
    rw [h3]; rfl
theorem containsS_ok (l : List Sty) (g : Nat) (cs : List AV) (p : Sty → Bool) (hl : l.length < 1000000) (hp : ∀ x : Sty, Pure Tryz.prog g [x.av, .rp cs] (.v (.bool (p x)))) :
    Pure Tryz.prog 69 [.sl (stys l), .fn g [.rp cs]] (.v (.bool (l.any p))) := by
  have h := indexS_ok2 l g cs p hl hp
  rw [← idxF_any]
  refine fn_pure Tryz.F69 (Nat.le_of_ble_eq_true rfl) ?_; unfold Tryz.ac69
  repeat' (first
    | (apply Awp.sreg; (case hn => (simp only [List.length_cons, List.length_nil, Nat.reduceAdd] <;> rfl)))
    | (refine st_nil ?_)
    | (apply st_a; (case hc => rfl); (case he => (simp only [go_sem, *] <;> rfl)); (case hu => (simp only [updL_nil, updL_cons] <;> rfl)); (case hp => first | trivial))
    | (apply st_c; (case hc => (simp only [go_sem, *] <;> rfl)); (case hl => (simp only [go_sem, *] <;> rfl)); (case hn => (simp only [go_sem, *] <;> rfl)); (case hp => first | exact h | (have hXz := h; simp only [go_sem, *] at hXz; exact hXz)))
    | (refine Awp.ret ?_; try simp only [go_sem, *]))
  all_goals repeat' (first | exact Lower.bool (by first | rfl | (simp only [true_and, Bool.true_and, Bool.false_and, Bool.and_true, Bool.and_false, Bool.true_or, Bool.false_or, reduceIte, Bool.false_eq_true, *]; done) | (simp only [true_and, reduceIte, Bool.false_eq_true, *] <;> rfl) | (simp [true_and]; done) | (simp_all [true_and]; done) | omega))
def findB (l : List By) (nm : ByteArray) : By × Bool := if decide (idxF (fun q : By => q.nm.toList == nm.toList) l < 0) then (zeroBy, false) else (l.getD (idxF (fun q : By => q.nm.toList == nm.toList) l).toNat zeroBy, true)
theorem find_ok (l : List By) (nm : ByteArray) (hl : l.length < 1000000) : Pure Tryz.prog 51 [.sl (bys l), .v (.string nm)] (.tup [(findB l nm).1.av, .v (.bool (findB l nm).2)]) := by
  have h := indexB_ok l 68 [.v (.string nm)] (fun q : By => q.nm.toList == nm.toList) hl (nameEq_ok nm)
  unfold findB
  generalize hI : idxF (fun q : By => q.nm.toList == nm.toList) l = I at *
  by_cases h0 : I < 0
  · refine fn_pure Tryz.F51 (Nat.le_of_ble_eq_true rfl) ?_; unfold Tryz.ac51
    repeat' (first
    | (apply Awp.sreg; (case hn => (simp only [List.length_cons, List.length_nil, Nat.reduceAdd] <;> rfl)))
    | (refine st_nil ?_)
    | (apply st_a; (case hc => rfl); (case he => (simp only [go_sem, *] <;> rfl)); (case hu => (simp only [updL_nil, updL_cons] <;> rfl)); (case hp => first | trivial))
    | (apply st_cd; (case hc => (simp only [go_sem, *] <;> rfl)); (case hl => (simp only [go_sem, *] <;> rfl)); (case hn => (simp only [go_sem, *] <;> rfl)); (case hp => first | exact h | (have hXz := h; simp only [go_sem, *] at hXz; exact hXz)); (case hd => first | exact .v _ | exact .any | exact .nils | (repeat' (first | exact Dry.v _ | exact Dry.any | exact Dry.nils | exact Dry.slE | refine Dry.agg ?_ | refine Dry.tup ?_ | (refine List.forall_mem_cons.2 (And.intro ?_ ?_)) | (intro cQ hQ; cases hQ; done)))); (case hm => first | decide | (simp; done)))
    | (refine Awp.ret ?_; try simp only [go_sem, *])
    | (apply Awp.cond; (case hc => (simp only [go_sem, *] <;> rfl)); all_goals (intro hg; (try simp only [Bool.not_true, Bool.not_false, reduceCtorEq] at hg); (try have hg' := hg); (try simp only [decide_eq_true_eq, decide_eq_false_iff_not, Bool.and_eq_true, Bool.or_eq_false_iff, bne_iff_ne, bne_eq_false_iff_eq, beq_iff_eq, beq_eq_false_iff_ne, Int.not_lt, Int.not_le, Int.ofNat_lt, Int.ofNat_le, Int.natCast_inj] at hg')))
    | refine Awp.seq ?_)
    all_goals repeat' (first | exact Lower.bool (by first | rfl | (simp only [zeroBy, Bool.true_and, Bool.false_and, Bool.and_true, Bool.and_false, Bool.true_or, Bool.false_or, reduceIte, Bool.false_eq_true, *]; done) | (simp only [zeroBy, reduceIte, Bool.false_eq_true, *] <;> rfl) | (simp [zeroBy]; done) | (simp_all [zeroBy]; done) | omega) | exact Lower.int (by first | rfl | (simp only [zeroBy, Bool.true_and, Bool.false_and, Bool.and_true, Bool.and_false, Bool.true_or, Bool.false_or, reduceIte, Bool.false_eq_true, *]; done) | (simp only [zeroBy, reduceIte, Bool.false_eq_true, *] <;> rfl) | (simp [zeroBy]; done) | (simp_all [zeroBy]; done) | omega) | exact Lower.str (by first | rfl | (simp only [zeroBy, Bool.true_and, Bool.false_and, Bool.and_true, Bool.and_false, Bool.true_or, Bool.false_or, reduceIte, Bool.false_eq_true, *]; done) | (simp only [zeroBy, reduceIte, Bool.false_eq_true, *] <;> rfl) | (simp [zeroBy]; done) | (simp_all [zeroBy]; done) | omega) | refine Lower.aggF ?_ | refine Lower.tupF ?_ | refine All2.cons ?_ ?_ | exact All2.nil)
  · have hlt : I.toNat < l.length := by
      unfold idxF at hI
      split at hI <;> omega
    have hat := bys_at l I.toNat hlt
    have hz : ((l.getD I.toNat zeroBy).cells).length = 3 := rfl
    have hlt' : I < l.length := by omega
    refine fn_pure Tryz.F51 (Nat.le_of_ble_eq_true rfl) ?_; unfold Tryz.ac51
    repeat' (first
    | (apply Awp.sreg; (case hn => (simp only [List.length_cons, List.length_nil, Nat.reduceAdd] <;> rfl)))
    | (refine st_nil ?_)
    | (apply st_a; (case hc => rfl); (case he => (simp only [go_sem, *] <;> rfl)); (case hu => (simp only [updL_nil, updL_cons] <;> rfl)); (case hp => first | trivial | omega))
    | (apply st_cd; (case hc => (simp only [go_sem, *] <;> rfl)); (case hl => (simp only [go_sem, *] <;> rfl)); (case hn => (simp only [go_sem, *] <;> rfl)); (case hp => first | exact h | (have hXz := h; simp only [go_sem, *] at hXz; exact hXz)); (case hd => first | exact .v _ | exact .any | exact .nils | (repeat' (first | exact Dry.v _ | exact Dry.any | exact Dry.nils | exact Dry.slE | refine Dry.agg ?_ | refine Dry.tup ?_ | (refine List.forall_mem_cons.2 (And.intro ?_ ?_)) | (intro cQ hQ; cases hQ; done)))); (case hm => first | decide | (simp; done)))
    | (refine Awp.ret ?_; try simp only [go_sem, *])
    | (refine Awp.skip ?_; try simp only [go_sem, *])
    | (apply Awp.cond; (case hc => (simp only [go_sem, *] <;> rfl)); all_goals (intro hg; (try simp only [Bool.not_true, Bool.not_false, reduceCtorEq] at hg); (try have hg' := hg); (try simp only [decide_eq_true_eq, decide_eq_false_iff_not, Bool.and_eq_true, Bool.or_eq_false_iff, bne_iff_ne, bne_eq_false_iff_eq, beq_iff_eq, beq_eq_false_iff_ne, Int.not_lt, Int.not_le, Int.ofNat_lt, Int.ofNat_le, Int.natCast_inj] at hg')))
    | refine Awp.seq ?_)
    all_goals repeat' (first | exact Lower.bool (by first | rfl | (simp only [true_and, Bool.true_and, Bool.false_and, Bool.and_true, Bool.and_false, Bool.true_or, Bool.false_or, reduceIte, Bool.false_eq_true, *]; done) | (simp only [true_and, reduceIte, Bool.false_eq_true, *] <;> rfl) | (simp [true_and]; done) | (simp_all [true_and]; done) | omega) | exact Lower.int (by first | rfl | (simp only [true_and, Bool.true_and, Bool.false_and, Bool.and_true, Bool.and_false, Bool.true_or, Bool.false_or, reduceIte, Bool.false_eq_true, *]; done) | (simp only [true_and, reduceIte, Bool.false_eq_true, *] <;> rfl) | (simp [true_and]; done) | (simp_all [true_and]; done) | omega) | exact Lower.str (by first | rfl | (simp only [true_and, Bool.true_and, Bool.false_and, Bool.and_true, Bool.and_false, Bool.true_or, Bool.false_or, reduceIte, Bool.false_eq_true, *]; done) | (simp only [true_and, reduceIte, Bool.false_eq_true, *] <;> rfl) | (simp [true_and]; done) | (simp_all [true_and]; done) | omega) | refine Lower.aggF ?_ | refine Lower.tupF ?_ | refine All2.cons ?_ ?_ | exact All2.nil)
end Go.Proofs
end
section
set_option linter.unusedVariables false
set_option linter.unusedSimpArgs false
namespace Go.Proofs
open Go Go.Ab
set_option maxHeartbeats 4000000
set_option maxRecDepth 100000
set_option linter.unusedSimpArgs false
set_option linter.unusedVariables false
attribute [local irreducible] Awp aops aopsL Go.Ab.Pure PureOwn
def rngB (x : Sty) : Bool := !sideB x.len || !sideB x.wid || decide (x.a < 0) || decide (x.b ≤ x.a) || decide (1048576 < x.b)
def offB (q : By) (x : Sty) : Bool := decide (x.x < 0) || decide (x.y < 0) || decide (IntKind.i64.wrap (q.len - x.len) < x.x) || decide (IntKind.i64.wrap (q.wid - x.wid) < x.y)
def stayE (bs : List By) (l : List Sty) (x : Sty) : Int :=
  if !idB x.item then 6 else if !(findB bs x.bay).2 then 8 else if rngB x then 9 else if offB (findB bs x.bay).1 x then 18 else if l.any (overB x) then 19 else 0
theorem stay_ok (bs : List By) (l : List Sty) (x : Sty) (hb : bs.length < 1000000) (hl : l.length < 1000000) : Pure Tryz.prog 52 [.sl (bys bs), .sl (stys l), x.av] (.v (.int .i64 (stayE bs l x))) := by
  have c0 := find_ok bs x.bay hb
  have c1 := isid_ok x.item
  have c2 := containsS_ok l 70 x.cells (overB x) hl (overC_ok x)
  unfold stayE
  generalize findB bs x.bay = F at *
  refine fn_pure Tryz.F52 (Nat.le_of_ble_eq_true rfl) ?_; unfold Tryz.ac52
  repeat' (first
    | (apply Awp.sreg; (case hn => (simp only [List.length_cons, List.length_nil, Nat.reduceAdd] <;> rfl)))
    | (refine st_nil ?_)
    | (apply st_a; (case hc => rfl); (case he => (simp only [go_sem, *] <;> rfl)); (case hu => (simp only [updL_nil, updL_cons] <;> rfl)); (case hp => first | trivial))
    | (apply st_m; (case hc => rfl); (case hg => (simp only [go_sem, *] <;> rfl)); (case he => (intro hQz; (try simp only [wantB_t, wantB_f, Bool.and_eq_true, Bool.not_eq_true', Bool.not_true, Bool.not_false, and_true, true_and] at hQz); simp only [go_sem, *] <;> rfl)); (case hp => (intro hQz; (try simp only [wantB_t, wantB_f, Bool.and_eq_true, Bool.not_eq_true', Bool.or_eq_false_iff, decide_eq_true_eq, decide_eq_false_iff_not, beq_iff_eq, beq_eq_false_iff_ne, bne_iff_ne, bne_eq_false_iff_eq, Int.not_lt, Int.not_le, Int.ofNat_lt, Int.ofNat_le] at hQz); first | trivial)))
    | (apply st_c; (case hc => (simp only [go_sem, *] <;> rfl)); (case hl => (simp only [go_sem, *] <;> rfl)); (case hn => (simp only [go_sem, *] <;> rfl)); (case hp => first | exact c0 | (have hXz := c0; simp only [go_sem, *] at hXz; exact hXz)))
    | (apply st_c; (case hc => (simp only [go_sem, *] <;> rfl)); (case hl => (simp only [go_sem, *] <;> rfl)); (case hn => (simp only [go_sem, *] <;> rfl)); (case hp => first | exact c1 | (have hXz := c1; simp only [go_sem, *] at hXz; exact hXz)))
    | (apply st_cd; (case hc => (simp only [go_sem, *] <;> rfl)); (case hl => (simp only [go_sem, *] <;> rfl)); (case hn => (simp only [go_sem, *] <;> rfl)); (case hp => first | exact c2 | (have hXz := c2; simp only [go_sem, *] at hXz; exact hXz)); (case hd => first | exact .v _ | exact .any | exact .nils | (repeat' (first | exact Dry.v _ | exact Dry.any | exact Dry.nils | exact Dry.slE | refine Dry.agg ?_ | refine Dry.tup ?_ | (refine List.forall_mem_cons.2 (And.intro ?_ ?_)) | (intro cQ hQ; cases hQ; done)))); (case hm => first | decide | (simp; done)))
    | (apply st_mc; (case hop => rfl); (case hg => (simp only [go_sem, *] <;> rfl)); (case hc => (intro hQz; (try simp only [wantB_t, wantB_f, Bool.and_eq_true, Bool.not_eq_true', Bool.not_true, Bool.not_false, and_true, true_and] at hQz); simp only [go_sem, *] <;> rfl)); (case hl => (intro hQz; (try simp only [wantB_t, wantB_f, Bool.and_eq_true, Bool.not_eq_true', Bool.not_true, Bool.not_false, and_true, true_and] at hQz); simp only [go_sem, *] <;> rfl)); (case hn => (intro hQz; (try simp only [wantB_t, wantB_f, Bool.and_eq_true, Bool.not_eq_true', Bool.not_true, Bool.not_false, and_true, true_and] at hQz); simp only [go_sem, *] <;> rfl)); (case hp => intro hQz; first | exact side_ok _ | (have hXz := side_ok _; simp only [go_sem, *] at hXz; exact hXz)))
    | (apply st_c; (case hc => (simp only [go_sem, *] <;> rfl)); (case hl => (simp only [go_sem, *] <;> rfl)); (case hn => (simp only [go_sem, *] <;> rfl)); (case hp => first | exact side_ok _ | (have hXz := side_ok _; simp only [go_sem, *] at hXz; exact hXz)))
    | (refine Awp.ret ?_; try simp only [go_sem, *])
    | (refine Awp.skip ?_; try simp only [go_sem, *])
    | refine Awp.block ?_
    | (apply Awp.cond; (case hc => (simp only [go_sem, *] <;> rfl)); all_goals (intro hg; (try simp only [Bool.not_true, Bool.not_false, reduceCtorEq] at hg)))
    | refine Awp.seq ?_)
  all_goals repeat' (first | exact Lower.int (by first | rfl | (simp only [rngB, offB, Bool.true_and, Bool.false_and, Bool.and_true, Bool.and_false, Bool.true_or, Bool.false_or, reduceIte, Bool.false_eq_true, *]; done) | (simp only [rngB, offB, reduceIte, Bool.false_eq_true, *] <;> rfl) | (simp [rngB, offB]; done) | (simp_all [rngB, offB]; done) | omega))
def firstE (f : Nat → Int) (n : Nat) : Int := match (List.range n).find? (fun i => f i != 0) with
  | some i => f i
  | none => 0
theorem firstE_bad {f : Nat → Int} {n i : Nat} (hi : i < n) (h : f i ≠ 0) (hj : ∀ j, j < i → f j = 0) : firstE f n = f i := by
  have e : (List.range n).find? (fun i => f i != 0) = some i := by
    rw [List.find?_eq_some_iff_getElem]
    refine ⟨by simpa using h, i, by simpa using hi, by simp, fun j hji => ?_⟩
    have := hj j hji
    simp [this]
  unfold firstE
  rw [e]
theorem firstE_end {f : Nat → Int} {n i : Nat} (hi : n ≤ i) (hj : ∀ j, j < i → f j = 0) : firstE f n = 0 := by
  have e : (List.range n).find? (fun i => f i != 0) = none := by
    rw [List.find?_eq_none]
    intro j hjn
    have := hj j (by have := List.mem_range.1 hjn; omega)
    simp [this]
  unfold firstE
  rw [e]
theorem bys_take (l : List By) (i : Nat) : (bys l).take i = bys (l.take i) := by simp [bys, List.map_take]
theorem stys_take (l : List Sty) (i : Nat) : (stys l).take i = stys (l.take i) := by simp [stys, List.map_take]
def bayAt (bs : List By) (i : Nat) : Int :=
  if !nameB (bs.getD i zeroBy).nm then 6 else if !sideB (bs.getD i zeroBy).len || !sideB (bs.getD i zeroBy).wid then 9 else if (findB (bs.take i) (bs.getD i zeroBy).nm).2 then 7 else 0
def checkE (bs : List By) (l : List Sty) : Int :=
  if decide ((8 : Int) < bs.length) || decide ((128 : Int) < l.length) then 4 else if firstE (bayAt bs) bs.length != 0 then firstE (bayAt bs) bs.length
  else firstE (fun i => stayE bs (l.take i) (l.getD i zeroSty)) l.length
theorem ck_bad {bs : List By} {l : List Sty} {i : Nat} {e : Int} (hL : (decide ((8 : Int) < bs.length) || decide ((128 : Int) < l.length)) = false) (hi : i < bs.length) (hj : ∀ j, j < i → bayAt bs j = 0) (h : bayAt bs i = e) (he : e ≠ 0) : e = checkE bs l := by
  have h1 := firstE_bad (f := bayAt bs) hi (by rw [h]; exact he) hj
  rw [h] at h1
  unfold checkE
  rw [if_neg (by rw [hL]; simp), h1, if_pos (by simpa using he)]
theorem ck_stay {bs : List By} {l : List Sty} {i : Nat} {e : Int} (hL : (decide ((8 : Int) < bs.length) || decide ((128 : Int) < l.length)) = false) (hb : firstE (bayAt bs) bs.length = 0) (hi : i < l.length) (hj : ∀ j, j < i → stayE bs (l.take j) (l.getD j zeroSty) = 0) (h : stayE bs (l.take i) (l.getD i zeroSty) = e) (he : e ≠ 0) : e = checkE bs l := by
  have h1 := firstE_bad (f := fun i => stayE bs (l.take i) (l.getD i zeroSty)) hi (by show stayE bs (l.take i) (l.getD i zeroSty) ≠ 0; rw [h]; exact he) hj
  rw [h] at h1
  unfold checkE
  rw [if_neg (by rw [hL]; simp), if_neg (by rw [hb]; simp), h1]
theorem ck_end {bs : List By} {l : List Sty} {i : Nat} (hL : (decide ((8 : Int) < bs.length) || decide ((128 : Int) < l.length)) = false) (hb : firstE (bayAt bs) bs.length = 0) (hi : l.length ≤ i) (hj : ∀ j, j < i → stayE bs (l.take j) (l.getD j zeroSty) = 0) : 0 = checkE bs l := by
  have h1 := firstE_end (f := fun i => stayE bs (l.take i) (l.getD i zeroSty)) hi hj
  unfold checkE
  rw [if_neg (by rw [hL]; simp), if_neg (by rw [hb]; simp), h1]
theorem check_ok (bs : List By) (l : List Sty) (hb : bs.length < 100000) (hl : l.length < 100000) : Pure Tryz.prog 26 [.sl (bys bs), .sl (stys l)] (.v (.int .i64 (checkE bs l))) := by
  by_cases hL : (decide ((8 : Int) < bs.length) || decide ((128 : Int) < l.length)) = true
  · unfold checkE
    rw [if_pos hL]
    refine fn_pure Tryz.F26 (Nat.le_of_ble_eq_true rfl) ?_; unfold Tryz.ac26
    repeat' (first
    | (apply Awp.sreg; (case hn => (simp only [List.length_cons, List.length_nil, Nat.reduceAdd] <;> rfl)))
    | (refine st_nil ?_)
    | (apply st_a; (case hc => rfl); (case he => (simp only [go_sem, *] <;> rfl)); (case hu => (simp only [updL_nil, updL_cons] <;> rfl)); (case hp => first | trivial))
    | (apply st_m; (case hc => rfl); (case hg => (simp only [go_sem, *] <;> rfl)); (case he => (intro hQz; (try simp only [wantB_t, wantB_f, Bool.and_eq_true, Bool.not_eq_true', Bool.not_true, Bool.not_false, and_true, true_and] at hQz); simp only [go_sem, *] <;> rfl)); (case hp => (intro hQz; (try simp only [wantB_t, wantB_f, Bool.and_eq_true, Bool.not_eq_true', Bool.or_eq_false_iff, decide_eq_true_eq, decide_eq_false_iff_not, beq_iff_eq, beq_eq_false_iff_ne, bne_iff_ne, bne_eq_false_iff_eq, Int.not_lt, Int.not_le, Int.ofNat_lt, Int.ofNat_le] at hQz); first | trivial)))
    | (refine Awp.ret ?_; try simp only [go_sem, *])
    | (apply Awp.cond; (case hc => (simp only [go_sem, *] <;> rfl)); all_goals (intro hg; (try simp only [Bool.not_true, Bool.not_false, reduceCtorEq] at hg)))
    | refine Awp.seq ?_)
    all_goals first | repeat' (first | exact Lower.int (by first | rfl | (simp only [true_and, Bool.true_and, Bool.false_and, Bool.and_true, Bool.and_false, Bool.true_or, Bool.false_or, reduceIte, Bool.false_eq_true, *]; done) | (simp only [true_and, reduceIte, Bool.false_eq_true, *] <;> rfl) | (simp [true_and]; done) | (simp_all [true_and]; done) | omega)) | skip
    all_goals (exfalso; simp_all)
  have hL' : (decide ((8 : Int) < bs.length) || decide ((128 : Int) < l.length)) = false := by simpa using hL
  clear hL
  refine fn_pure Tryz.F26 (Nat.le_of_ble_eq_true rfl) ?_; unfold Tryz.ac26
  repeat' (first
    | (apply Awp.sreg; (case hn => (simp only [List.length_cons, List.length_nil, Nat.reduceAdd] <;> rfl)))
    | (refine st_nil ?_)
    | (apply st_a; (case hc => rfl); (case he => (simp only [go_sem, *] <;> rfl)); (case hu => (simp only [updL_nil, updL_cons] <;> rfl)); (case hp => first | trivial))
    | (apply st_m; (case hc => rfl); (case hg => (simp only [go_sem, *] <;> rfl)); (case he => (intro hQz; (try simp only [wantB_t, wantB_f, Bool.and_eq_true, Bool.not_eq_true', Bool.not_true, Bool.not_false, and_true, true_and] at hQz); simp only [go_sem, *] <;> rfl)); (case hp => (intro hQz; (try simp only [wantB_t, wantB_f, Bool.and_eq_true, Bool.not_eq_true', Bool.or_eq_false_iff, decide_eq_true_eq, decide_eq_false_iff_not, beq_iff_eq, beq_eq_false_iff_ne, bne_iff_ne, bne_eq_false_iff_eq, Int.not_lt, Int.not_le, Int.ofNat_lt, Int.ofNat_le] at hQz); first | trivial)))
    | (refine Awp.skip ?_; try simp only [go_sem, *])
    | refine Awp.block ?_
    | (apply Awp.cond; (case hc => (simp only [go_sem, *] <;> rfl)); all_goals (intro hg; (try simp only [Bool.not_true, Bool.not_false, reduceCtorEq] at hg)))
    | refine Awp.seq ?_)
  refine Awp.loop (fun i : Nat => i ≤ bs.length ∧ ∀ j, j < i → bayAt bs j = 0) 40 (fun i => mkS [(0, .sl (bys bs)), (1, .sl (stys l)), (20, .sl (bys bs)), (21, .v (.int .i64 bs.length)), (22, .v (.int .i64 i))] []) (fun i => bs.length - i) 0 (by simp) ?_ ?_
  · (apply Ghost.mk [] []; (case hdead => rfl); (case hinj => rfl); (case hV => (simp only [go_sem, *]) <;> (repeat' (first | exact View.int (by first | rfl | omega | (simp; done) | (rw [wrap_i64] <;> (try simp only [Int.natCast_add]) <;> omega) | (simp [*]; done))))); (case hB => (simp only [go_sem, *]) <;> (repeat' (first | skip; done))))
  · intro i ⟨hi, hj⟩
    by_cases hlt : i < bs.length
    · have hlt' : (i : Int) < bs.length := by omega
      have hat := bys_at bs i hlt
      have hz : ((bs.getD i zeroBy).cells).length = 3 := rfl
      have h3 := bys_one bs
      have ht := bys_take bs i
      have c0 := name_ok (bs.getD i zeroBy).nm
      have c1 := find_ok (bs.take i) (bs.getD i zeroBy).nm (by simp; omega)
      have hle : (i : Int) ≤ bs.length := by omega
      have h00 : (0 : Int) ≤ i := by omega
      generalize hF : findB (bs.take i) (bs.getD i zeroBy).nm = F at c1
      repeat' (first
    | (apply Awp.sreg; (case hn => (simp only [List.length_cons, List.length_nil, Nat.reduceAdd] <;> rfl)))
    | (apply Awp.sdraw; (case hn => (simp only [List.length_cons, List.length_nil, Nat.reduceAdd] <;> rfl)))
    | (refine st_nil ?_)
    | (apply st_a; (case hc => rfl); (case he => (simp only [go_sem, *] <;> rfl)); (case hu => (simp only [updL_nil, updL_cons] <;> rfl)); (case hp => first | trivial))
    | (apply st_m; (case hc => rfl); (case hg => (simp only [go_sem, *] <;> rfl)); (case he => (intro hQz; (try simp only [wantB_t, wantB_f, Bool.and_eq_true, Bool.not_eq_true', Bool.not_true, Bool.not_false, and_true, true_and] at hQz); simp only [go_sem, *] <;> rfl)); (case hp => (intro hQz; (try simp only [wantB_t, wantB_f, Bool.and_eq_true, Bool.not_eq_true', Bool.or_eq_false_iff, decide_eq_true_eq, decide_eq_false_iff_not, beq_iff_eq, beq_eq_false_iff_ne, bne_iff_ne, bne_eq_false_iff_eq, Int.not_lt, Int.not_le, Int.ofNat_lt, Int.ofNat_le] at hQz); first | trivial)))
    | (apply st_c; (case hc => (simp only [go_sem, *] <;> rfl)); (case hl => (simp only [go_sem, *] <;> rfl)); (case hn => (simp only [go_sem, *] <;> rfl)); (case hp => first | exact c0 | (have hXz := c0; simp only [go_sem, *] at hXz; exact hXz)))
    | (apply st_mc; (case hop => rfl); (case hg => (simp only [go_sem, *] <;> rfl)); (case hc => (intro hQz; (try simp only [wantB_t, wantB_f, Bool.and_eq_true, Bool.not_eq_true', Bool.not_true, Bool.not_false, and_true, true_and] at hQz); simp only [go_sem, *] <;> rfl)); (case hl => (intro hQz; (try simp only [wantB_t, wantB_f, Bool.and_eq_true, Bool.not_eq_true', Bool.not_true, Bool.not_false, and_true, true_and] at hQz); simp only [go_sem, *] <;> rfl)); (case hn => (intro hQz; (try simp only [wantB_t, wantB_f, Bool.and_eq_true, Bool.not_eq_true', Bool.not_true, Bool.not_false, and_true, true_and] at hQz); simp only [go_sem, *] <;> rfl)); (case hp => intro hQz; first | exact side_ok _ | (have hXz := side_ok _; simp only [go_sem, *] at hXz; exact hXz)))
    | (apply st_c; (case hc => (simp only [go_sem, *] <;> rfl)); (case hl => (simp only [go_sem, *] <;> rfl)); (case hn => (simp only [go_sem, *] <;> rfl)); (case hp => first | exact side_ok _ | (have hXz := side_ok _; simp only [go_sem, *] at hXz; exact hXz)))
    | (apply Awp.reg; (case hn => (simp only [List.length_cons, List.length_nil, Nat.reduceAdd] <;> rfl)))
    | (refine Awp.ret ?_; try simp only [go_sem, *])
    | (refine Awp.skip ?_; try simp only [go_sem, *])
    | refine Awp.block ?_
    | (apply Awp.cond; (case hc => (simp only [go_sem, *] <;> rfl)); all_goals (intro hg; (try simp only [Bool.not_true, Bool.not_false, reduceCtorEq] at hg)))
    | refine Awp.seq ?_
    | (apply sl_a; (case hc => rfl); (case he => (simp only [go_sem, *] <;> rfl)); (case hu => (simp only [updL_nil, updL_cons] <;> rfl)); (case hl => (simp only [List.map_cons, List.map_nil] <;> rfl)); (case hp => first | trivial))
    | (apply sl_c; (case hc => (simp only [go_sem, *] <;> rfl)); (case hl => (simp only [go_sem, *] <;> rfl)); (case hn => (simp only [go_sem, *] <;> rfl)); (case hp => first | exact c1 | (have hXz := c1; simp only [go_sem, *] at hXz; exact hXz)); (case hd => first | exact .inl rfl | exact .inr (.v _) | exact .inr .any | exact .inr .nils); (case hm => first | decide | (simp; done)))
    | (refine sl_nil (And.intro (by first | exact drawOk_of (by decide +kernel) | (simp only [List.map_cons, List.map_nil]; exact drawOk_of (by decide +kernel)) | decide) ?_)))
      · exact Lower.int (ck_bad hL' hlt hj (by simp only [bayAt, hF, *, reduceIte, Bool.false_eq_true]) (by decide))
      · exact Lower.int (ck_bad hL' hlt hj (by simp only [bayAt, hF, *, reduceIte, Bool.false_eq_true]) (by decide))
      · exact Lower.int (ck_bad hL' hlt hj (by simp only [bayAt, hF, *, reduceIte, Bool.false_eq_true]) (by decide))
      · refine ⟨i + 1, ⟨by omega, ltSucc hj (by simp only [bayAt, hF, *, reduceIte, Bool.false_eq_true])⟩, by omega, ?_⟩
        (apply Ghost.mk [] []; (case hdead => rfl); (case hinj => rfl); (case hV => (simp only [go_sem, *]) <;> (repeat' (first | exact View.int (by first | rfl | omega | (simp; done) | (rw [wrap_i64] <;> (try simp only [Int.natCast_add]) <;> omega) | (simp [*]; done))))); (case hB => (simp only [go_sem, *]) <;> (repeat' (first | skip; done))))
    · have hlt' : ¬ (i : Int) < bs.length := by omega
      have hfe := firstE_end (Nat.le_of_not_lt hlt) hj
      clear hj
      repeat' (first
    | (apply Awp.sreg; (case hn => (simp only [List.length_cons, List.length_nil, Nat.reduceAdd] <;> rfl)))
    | (refine st_nil ?_)
    | (apply st_a; (case hc => rfl); (case he => (simp only [go_sem, *] <;> rfl)); (case hu => (simp only [updL_nil, updL_cons] <;> rfl)); (case hp => first | trivial))
    | (refine Awp.exit ?_; try simp only [go_sem, *])
    | refine Awp.block ?_
    | (apply Awp.cond; (case hc => (simp only [go_sem, *] <;> rfl)); all_goals (intro hg; (try simp only [Bool.not_true, Bool.not_false, reduceCtorEq] at hg)))
    | refine Awp.seq ?_)
      clear hlt hlt' hi
      refine Awp.loop (fun i : Nat => i ≤ l.length ∧ ∀ j, j < i → stayE bs (l.take j) (l.getD j zeroSty) = 0) 60 (fun i => mkS [(0, .sl (bys bs)), (1, .sl (stys l)), (52, .sl (stys l)), (53, .v (.int .i64 l.length)), (54, .v (.int .i64 i))] []) (fun i => l.length - i) 0 (by simp) ?_ ?_
      · (apply Ghost.mk [] []; (case hdead => rfl); (case hinj => rfl); (case hV => (simp only [go_sem, *]) <;> (repeat' (first | exact View.int (by first | rfl | omega | (simp; done) | (rw [wrap_i64] <;> (try simp only [Int.natCast_add]) <;> omega) | (simp [*]; done))))); (case hB => (simp only [go_sem, *]) <;> (repeat' (first | skip; done))))
      · intro k ⟨hi, hj⟩
        by_cases hlt : k < l.length
        · have hlt' : (k : Int) < l.length := by omega
          have hat := stys_at l k hlt
          have hz : ((l.getD k zeroSty).cells).length = 8 := rfl
          have h3 := stys_one l
          have ht := stys_take l k
          have hle : (k : Int) ≤ l.length := by omega
          have h00 : (0 : Int) ≤ k := by omega
          have c0 := stay_ok bs (l.take k) (l.getD k zeroSty) (by omega) (by simp; omega)
          generalize hE : stayE bs (l.take k) (l.getD k zeroSty) = e at c0
          repeat' (first
    | (apply Awp.sreg; (case hn => (simp only [List.length_cons, List.length_nil, Nat.reduceAdd] <;> rfl)))
    | (apply Awp.sdraw; (case hn => (simp only [List.length_cons, List.length_nil, Nat.reduceAdd] <;> rfl)))
    | (refine st_nil ?_)
    | (apply st_a; (case hc => rfl); (case he => (simp only [go_sem, *] <;> rfl)); (case hu => (simp only [updL_nil, updL_cons] <;> rfl)); (case hp => first | trivial))
    | (apply Awp.reg; (case hn => (simp only [List.length_cons, List.length_nil, Nat.reduceAdd] <;> rfl)))
    | (refine Awp.ret ?_; try simp only [go_sem, *])
    | (refine Awp.skip ?_; try simp only [go_sem, *])
    | refine Awp.block ?_
    | (apply Awp.cond; (case hc => (simp only [go_sem, *] <;> rfl)); all_goals (intro hg; (try simp only [Bool.not_true, Bool.not_false, reduceCtorEq] at hg)))
    | refine Awp.seq ?_
    | (apply sl_a; (case hc => rfl); (case he => (simp only [go_sem, *] <;> rfl)); (case hu => (simp only [updL_nil, updL_cons] <;> rfl)); (case hl => (simp only [List.map_cons, List.map_nil] <;> rfl)); (case hp => first | trivial))
    | (apply sl_c; (case hc => (simp only [go_sem, *] <;> rfl)); (case hl => (simp only [go_sem, *] <;> rfl)); (case hn => (simp only [go_sem, *] <;> rfl)); (case hp => first | exact c0 | (have hXz := c0; simp only [go_sem, *] at hXz; exact hXz)); (case hd => first | exact .inl rfl | exact .inr (.v _) | exact .inr .any | exact .inr .nils); (case hm => first | decide | (simp; done)))
    | (refine sl_nil (And.intro (by first | exact drawOk_of (by decide +kernel) | (simp only [List.map_cons, List.map_nil]; exact drawOk_of (by decide +kernel)) | decide) ?_)))
          · exact Lower.int (ck_stay hL' hfe hlt hj hE (by simpa using hg))
          · refine ⟨k + 1, ⟨by omega, ltSucc hj (by rw [hE]; simpa using hg)⟩, by omega, ?_⟩
            (apply Ghost.mk [] []; (case hdead => rfl); (case hinj => rfl); (case hV => (simp only [go_sem, *]) <;> (repeat' (first | exact View.int (by first | rfl | omega | (simp; done) | (rw [wrap_i64] <;> (try simp only [Int.natCast_add]) <;> omega) | (simp [*]; done))))); (case hB => (simp only [go_sem, *]) <;> (repeat' (first | skip; done))))
        · have hlt' : ¬ (k : Int) < l.length := by omega
          repeat' (first
    | (apply Awp.sreg; (case hn => (simp only [List.length_cons, List.length_nil, Nat.reduceAdd] <;> rfl)))
    | (refine st_nil ?_)
    | (apply st_a; (case hc => rfl); (case he => (simp only [go_sem, *] <;> rfl)); (case hu => (simp only [updL_nil, updL_cons] <;> rfl)); (case hp => first | trivial))
    | (refine Awp.ret ?_; try simp only [go_sem, *])
    | (refine Awp.exit ?_; try simp only [go_sem, *])
    | (apply Awp.cond; (case hc => (simp only [go_sem, *] <;> rfl)); all_goals (intro hg; (try simp only [Bool.not_true, Bool.not_false, reduceCtorEq] at hg)))
    | refine Awp.seq ?_)
          exact Lower.int (ck_end hL' hfe (Nat.le_of_not_lt hlt) hj)
end Go.Proofs
end
section
set_option linter.unusedVariables false
set_option linter.unusedSimpArgs false
namespace Go.Proofs
open Go Go.Ab
set_option maxHeartbeats 4000000
set_option maxRecDepth 100000
set_option linter.unusedSimpArgs false
set_option linter.unusedVariables false
attribute [local irreducible] Awp aops aopsL Go.Ab.Pure PureOwn
theorem in_ok (n a b : Int) : Pure Tryz.prog 72 [.v (.int .i64 n), .v (.int .i64 a), .v (.int .i64 b)] (.v (.bool (decide (a ≤ n) && decide (n ≤ b)))) := by
  refine fn_pure Tryz.F72 (Nat.le_of_ble_eq_true rfl) ?_; unfold Tryz.ac72
  repeat' (first
    | (apply Awp.sreg; (case hn => (simp only [List.length_cons, List.length_nil, Nat.reduceAdd] <;> rfl)))
    | (refine st_nil ?_)
    | (apply st_a; (case hc => rfl); (case he => (simp only [go_sem, *] <;> rfl)); (case hu => (simp only [updL_nil, updL_cons] <;> rfl)); (case hp => first | trivial))
    | (apply st_m; (case hc => rfl); (case hg => (simp only [go_sem, *] <;> rfl)); (case he => (intro hQz; (try simp only [wantB_t, wantB_f, Bool.and_eq_true, Bool.not_eq_true', Bool.not_true, Bool.not_false, and_true, true_and] at hQz); simp only [go_sem, *] <;> rfl)); (case hp => (intro hQz; (try simp only [wantB_t, wantB_f, Bool.and_eq_true, Bool.not_eq_true', Bool.or_eq_false_iff, decide_eq_true_eq, decide_eq_false_iff_not, beq_iff_eq, beq_eq_false_iff_ne, bne_iff_ne, bne_eq_false_iff_eq, Int.not_lt, Int.not_le, Int.ofNat_lt, Int.ofNat_le] at hQz); first | trivial)))
    | (refine Awp.ret ?_; try simp only [go_sem, *]))
  all_goals repeat' (first | exact Lower.bool (by first | rfl | (simp only [true_and, Bool.true_and, Bool.false_and, Bool.and_true, Bool.and_false, Bool.true_or, Bool.false_or, reduceIte, Bool.false_eq_true, *]; done) | (simp only [true_and, reduceIte, Bool.false_eq_true, *] <;> rfl) | (simp [true_and]; done) | (simp_all [true_and]; done) | omega))
theorem rfind_ok (l : List By) (nm : ByteArray) (hl : l.length < 1000000) : Pure Tryz.prog 73 [.sl (bys l), .v (.string nm)] (.v (.int .i64 (idxF (fun q : By => q.nm.toList == nm.toList) l))) := by
  refine fn_pure Tryz.F73 (Nat.le_of_ble_eq_true rfl) ?_; unfold Tryz.ac73
  repeat' (first
    | (apply Awp.sreg; (case hn => (simp only [List.length_cons, List.length_nil, Nat.reduceAdd] <;> rfl)))
    | (refine st_nil ?_)
    | (apply st_a; (case hc => rfl); (case he => (simp only [go_sem, *] <;> rfl)); (case hu => (simp only [updL_nil, updL_cons] <;> rfl)); (case hp => first | trivial))
    | refine Awp.block ?_
    | refine Awp.seq ?_)
  refine Awp.loop (fun i : Nat => i ≤ l.length ∧ ∀ j, j < i → (fun q : By => q.nm.toList == nm.toList) (l.getD j zeroBy) = false) 40 (fun i => mkS [(0, .sl (bys l)), (1, .v (.string nm)), (5, .v (.int .i64 i))] []) (fun i => l.length - i) 0 (by simp) ?_ ?_
  · (apply Ghost.mk [] []; (case hdead => rfl); (case hinj => rfl); (case hV => (simp only [go_sem, *]) <;> (repeat' (first | exact View.int (by first | rfl | omega | (simp; done) | (rw [wrap_i64] <;> (try simp only [Int.natCast_add]) <;> omega) | (simp [*]; done))))); (case hB => (simp only [go_sem, *]) <;> (repeat' (first | skip; done))))
  · intro i ⟨hi, hj⟩
    by_cases hlt : i < l.length
    · have hlt' : (i : Int) < l.length := by omega
      have hat := bys_at l i hlt
      have hz : ((l.getD i zeroBy).cells).length = 3 := rfl
      repeat' (first
    | (apply Awp.sreg; (case hn => (simp only [List.length_cons, List.length_nil, Nat.reduceAdd] <;> rfl)))
    | (refine st_nil ?_)
    | (apply st_a; (case hc => rfl); (case he => (simp only [go_sem, *] <;> rfl)); (case hu => (simp only [updL_nil, updL_cons] <;> rfl)); (case hp => first | trivial | omega))
    | (apply Awp.reg; (case hn => (simp only [List.length_cons, List.length_nil, Nat.reduceAdd] <;> rfl)))
    | (refine Awp.ret ?_; try simp only [go_sem, *])
    | (refine Awp.skip ?_; try simp only [go_sem, *])
    | refine Awp.block ?_
    | (apply Awp.cond; (case hc => (simp only [go_sem, *] <;> rfl)); all_goals (intro hg; (try simp only [Bool.not_true, Bool.not_false, reduceCtorEq] at hg)))
    | refine Awp.seq ?_)
      · exact Lower.int (idxF_in hlt hg hj).symm
      · refine ⟨i + 1, ⟨by omega, ltSucc hj hg⟩, by omega, ?_⟩
        (apply Ghost.mk [] []; (case hdead => rfl); (case hinj => rfl); (case hV => (simp only [go_sem, *]) <;> (repeat' (first | exact View.int (by first | rfl | omega | (simp; done) | (rw [wrap_i64] <;> (try simp only [Int.natCast_add]) <;> omega) | (simp [*]; done))))); (case hB => (simp only [go_sem, *]) <;> (repeat' (first | skip; done))))
    · have hlt' : ¬ (i : Int) < l.length := by omega
      repeat' (first
    | (apply Awp.sreg; (case hn => (simp only [List.length_cons, List.length_nil, Nat.reduceAdd] <;> rfl)))
    | (refine st_nil ?_)
    | (apply st_a; (case hc => rfl); (case he => (simp only [go_sem, *] <;> rfl)); (case hu => (simp only [updL_nil, updL_cons] <;> rfl)); (case hp => first | trivial))
    | (refine Awp.ret ?_; try simp only [go_sem, *])
    | (refine Awp.exit ?_; try simp only [go_sem, *])
    | (apply Awp.cond; (case hc => (simp only [go_sem, *] <;> rfl)); all_goals (intro hg; (try simp only [Bool.not_true, Bool.not_false, reduceCtorEq] at hg); (try have hg' := hg); (try simp only [decide_eq_true_eq, decide_eq_false_iff_not, Bool.and_eq_true, Bool.or_eq_false_iff, bne_iff_ne, bne_eq_false_iff_eq, beq_iff_eq, beq_eq_false_iff_ne, Int.not_lt, Int.not_le, Int.ofNat_lt, Int.ofNat_le, Int.natCast_inj] at hg')))
    | refine Awp.seq ?_)
      exact Lower.int (idxF_out (Nat.le_of_not_lt hlt) hj).symm
def roverB (q p : Sty) : Bool := (q.bay.toList == p.bay.toList) && decide (q.a < p.b) && decide (p.a < q.b) && decide (q.x < IntKind.i64.wrap (p.x + p.len)) && decide (p.x < IntKind.i64.wrap (q.x + q.len)) && decide (q.y < IntKind.i64.wrap (p.y + p.wid)) && decide (p.y < IntKind.i64.wrap (q.y + q.wid))
theorem roverB_eq (q p : Sty) : roverB q p = overB p q := by
  rw [Bool.eq_iff_iff]
  simp only [roverB, overB, cutB, Bool.and_eq_true, decide_eq_true_eq, beq_iff_eq]
  constructor
  · rintro ⟨⟨⟨⟨⟨⟨h1, h2⟩, h3⟩, h4⟩, h5⟩, h6⟩, h7⟩
    exact ⟨⟨⟨⟨h1.symm, h3⟩, h2⟩, h5, h4⟩, h7, h6⟩
  · rintro ⟨⟨⟨⟨h1, h2⟩, h3⟩, h4, h5⟩, h6, h7⟩
    exact ⟨⟨⟨⟨⟨⟨h1.symm, h3⟩, h2⟩, h5⟩, h4⟩, h7⟩, h6⟩
theorem rover_ok (q p : Sty) : Pure Tryz.prog 74 [q.av, p.av] (.v (.bool (overB p q))) := by
  rw [← roverB_eq]
  refine fn_pure Tryz.F74 (Nat.le_of_ble_eq_true rfl) ?_; unfold Tryz.ac74
  repeat' (first
    | (apply Awp.sreg; (case hn => (simp only [List.length_cons, List.length_nil, Nat.reduceAdd] <;> rfl)))
    | (refine st_nil ?_)
    | (apply st_a; (case hc => rfl); (case he => (simp only [go_sem, *] <;> rfl)); (case hu => (simp only [updL_nil, updL_cons] <;> rfl)); (case hp => first | trivial))
    | (apply st_m; (case hc => rfl); (case hg => (simp only [go_sem, *] <;> rfl)); (case he => (intro hQz; (try simp only [wantB_t, wantB_f, Bool.and_eq_true, Bool.not_eq_true', Bool.not_true, Bool.not_false, and_true, true_and] at hQz); simp only [go_sem, *] <;> rfl)); (case hp => (intro hQz; (try simp only [wantB_t, wantB_f, Bool.and_eq_true, Bool.not_eq_true', Bool.or_eq_false_iff, decide_eq_true_eq, decide_eq_false_iff_not, beq_iff_eq, beq_eq_false_iff_ne, bne_iff_ne, bne_eq_false_iff_eq, Int.not_lt, Int.not_le, Int.ofNat_lt, Int.ofNat_le] at hQz); first | trivial)))
    | (refine Awp.ret ?_; try simp only [go_sem, *]))
  all_goals repeat' (first | exact Lower.bool (by first | rfl | (simp only [roverB, Bool.true_and, Bool.false_and, Bool.and_true, Bool.and_false, Bool.true_or, Bool.false_or, reduceIte, Bool.false_eq_true, *]; done) | (simp only [roverB, reduceIte, Bool.false_eq_true, *] <;> rfl) | (simp [roverB]; done) | (simp_all [roverB]; done) | omega))
def roffB (q : By) (x : Sty) : Bool := !(decide (0 ≤ x.x) && decide (x.x ≤ IntKind.i64.wrap (q.len - x.len))) || !(decide (0 ≤ x.y) && decide (x.y ≤ IntKind.i64.wrap (q.wid - x.wid)))
theorem roffB_eq (q : By) (x : Sty) : roffB q x = offB q x := by
  rw [Bool.eq_iff_iff]
  simp only [roffB, offB, Bool.or_eq_true, Bool.not_eq_true', Bool.and_eq_false_iff, decide_eq_true_eq, decide_eq_false_iff_not]
  omega
theorem any_end {α : Type} {p : α → Bool} {l : List α} {d : α} {i : Nat} (h : l.length ≤ i) (hj : ∀ j, j < i → p (l.getD j d) = false) : l.any p = false := by
  rw [Bool.eq_false_iff]
  intro h2
  obtain ⟨x, hx, hpx⟩ := List.any_eq_true.1 h2
  obtain ⟨j, hjl, rfl⟩ := List.getElem_of_mem hx
  have := hj j (by omega)
  rw [List.getD_eq_getElem?_getD, List.getElem?_eq_getElem hjl, Option.getD_some, hpx] at this
  cases this
theorem any_in {α : Type} {p : α → Bool} {l : List α} {d : α} {i : Nat} (h : i < l.length) (hp : p (l.getD i d) = true) : l.any p = true := by
  refine List.any_eq_true.2 ⟨l[i], List.getElem_mem h, ?_⟩
  simpa [List.getD_eq_getElem?_getD, h] using hp
theorem rstay_ok (bs : List By) (l : List Sty) (x : Sty) (hb : bs.length < 1000000) (hl : l.length < 1000000) (hx : x.item.size < 1000000) : Pure Tryz.prog 54 [.sl (bys bs), .sl (stys l), x.av] (.v (.int .i64 (stayE bs l x))) := by
  have c0 := rfind_ok bs x.bay hb
  have c1 := risid_ok x.item hx
  unfold stayE findB
  generalize hI : idxF (fun q : By => q.nm.toList == x.bay.toList) bs = I at *
  by_cases h1 : idB x.item = true
  case neg =>
    have h1' : idB x.item = false := by simpa using h1
    refine fn_pure Tryz.F54 (Nat.le_of_ble_eq_true rfl) ?_; unfold Tryz.ac54
    repeat' (first
    | (apply Awp.sreg; (case hn => (simp only [List.length_cons, List.length_nil, Nat.reduceAdd] <;> rfl)))
    | (refine st_nil ?_)
    | (apply st_a; (case hc => rfl); (case he => (simp only [go_sem, *] <;> rfl)); (case hu => (simp only [updL_nil, updL_cons] <;> rfl)); (case hp => first | trivial))
    | (apply st_c; (case hc => (simp only [go_sem, *] <;> rfl)); (case hl => (simp only [go_sem, *] <;> rfl)); (case hn => (simp only [go_sem, *] <;> rfl)); (case hp => first | exact c1 | (have hXz := c1; simp only [go_sem, *] at hXz; exact hXz)))
    | (refine Awp.ret ?_; try simp only [go_sem, *])
    | (apply Awp.cond; (case hc => (simp only [go_sem, *] <;> rfl)); all_goals (intro hg; (try simp only [Bool.not_true, Bool.not_false, reduceCtorEq] at hg)))
    | refine Awp.seq ?_)
    all_goals repeat' (first | exact Lower.int (by first | rfl | (simp only [true_and, Bool.true_and, Bool.false_and, Bool.and_true, Bool.and_false, Bool.true_or, Bool.false_or, reduceIte, Bool.false_eq_true, *]; done) | (simp only [true_and, reduceIte, Bool.false_eq_true, *] <;> rfl) | (simp [true_and]; done) | (simp_all [true_and]; done) | omega))
  by_cases h0 : I < 0
  · refine fn_pure Tryz.F54 (Nat.le_of_ble_eq_true rfl) ?_; unfold Tryz.ac54
    repeat' (first
    | (apply Awp.sreg; (case hn => (simp only [List.length_cons, List.length_nil, Nat.reduceAdd] <;> rfl)))
    | (refine st_nil ?_)
    | (apply st_a; (case hc => rfl); (case he => (simp only [go_sem, *] <;> rfl)); (case hu => (simp only [updL_nil, updL_cons] <;> rfl)); (case hp => first | trivial))
    | (apply st_c; (case hc => (simp only [go_sem, *] <;> rfl)); (case hl => (simp only [go_sem, *] <;> rfl)); (case hn => (simp only [go_sem, *] <;> rfl)); (case hp => first | exact c1 | (have hXz := c1; simp only [go_sem, *] at hXz; exact hXz)))
    | (apply st_c; (case hc => (simp only [go_sem, *] <;> rfl)); (case hl => (simp only [go_sem, *] <;> rfl)); (case hn => (simp only [go_sem, *] <;> rfl)); (case hp => first | exact c0 | (have hXz := c0; simp only [go_sem, *] at hXz; exact hXz)))
    | (refine Awp.ret ?_; try simp only [go_sem, *])
    | (refine Awp.skip ?_; try simp only [go_sem, *])
    | (apply Awp.cond; (case hc => (simp only [go_sem, *] <;> rfl)); all_goals (intro hg; (try simp only [Bool.not_true, Bool.not_false, reduceCtorEq] at hg)))
    | refine Awp.seq ?_)
    all_goals repeat' (first | exact Lower.int (by first | rfl | (simp only [true_and, Bool.true_and, Bool.false_and, Bool.and_true, Bool.and_false, Bool.true_or, Bool.false_or, reduceIte, Bool.false_eq_true, *]; done) | (simp only [true_and, reduceIte, Bool.false_eq_true, *] <;> rfl) | (simp [true_and]; done) | (simp_all [true_and]; done) | omega))
  have hlt : I.toNat < bs.length := by
    unfold idxF at hI
    split at hI <;> omega
  have hat := bys_at bs I.toNat hlt
  have hz : ((bs.getD I.toNat zeroBy).cells).length = 3 := rfl
  have hlt' : I < bs.length := by omega
  have h0' : 0 ≤ I := by omega
  generalize bs.getD I.toNat zeroBy = q at *
  cases h2 : rngB x
  case true =>
    have h2' := h2
    unfold rngB sideB at h2'
    refine fn_pure Tryz.F54 (Nat.le_of_ble_eq_true rfl) ?_; unfold Tryz.ac54
    repeat' (first
    | (apply Awp.sreg; (case hn => (simp only [List.length_cons, List.length_nil, Nat.reduceAdd] <;> rfl)))
    | (refine st_nil ?_)
    | (apply st_a; (case hc => rfl); (case he => (simp only [go_sem, *] <;> rfl)); (case hu => (simp only [updL_nil, updL_cons] <;> rfl)); (case hp => first | trivial))
    | (apply st_m; (case hc => rfl); (case hg => (simp only [go_sem, *] <;> rfl)); (case he => (intro hQz; (try simp only [wantB_t, wantB_f, Bool.and_eq_true, Bool.not_eq_true', Bool.not_true, Bool.not_false, and_true, true_and] at hQz); simp only [go_sem, *] <;> rfl)); (case hp => (intro hQz; (try simp only [wantB_t, wantB_f, Bool.and_eq_true, Bool.not_eq_true', Bool.or_eq_false_iff, decide_eq_true_eq, decide_eq_false_iff_not, beq_iff_eq, beq_eq_false_iff_ne, bne_iff_ne, bne_eq_false_iff_eq, Int.not_lt, Int.not_le, Int.ofNat_lt, Int.ofNat_le] at hQz); first | trivial)))
    | (apply st_c; (case hc => (simp only [go_sem, *] <;> rfl)); (case hl => (simp only [go_sem, *] <;> rfl)); (case hn => (simp only [go_sem, *] <;> rfl)); (case hp => first | exact c1 | (have hXz := c1; simp only [go_sem, *] at hXz; exact hXz)))
    | (apply st_c; (case hc => (simp only [go_sem, *] <;> rfl)); (case hl => (simp only [go_sem, *] <;> rfl)); (case hn => (simp only [go_sem, *] <;> rfl)); (case hp => first | exact c0 | (have hXz := c0; simp only [go_sem, *] at hXz; exact hXz)))
    | (apply st_mc; (case hop => rfl); (case hg => (simp only [go_sem, *] <;> rfl)); (case hc => (intro hQz; (try simp only [wantB_t, wantB_f, Bool.and_eq_true, Bool.not_eq_true', Bool.not_true, Bool.not_false, and_true, true_and] at hQz); simp only [go_sem, *] <;> rfl)); (case hl => (intro hQz; (try simp only [wantB_t, wantB_f, Bool.and_eq_true, Bool.not_eq_true', Bool.not_true, Bool.not_false, and_true, true_and] at hQz); simp only [go_sem, *] <;> rfl)); (case hn => (intro hQz; (try simp only [wantB_t, wantB_f, Bool.and_eq_true, Bool.not_eq_true', Bool.not_true, Bool.not_false, and_true, true_and] at hQz); simp only [go_sem, *] <;> rfl)); (case hp => intro hQz; first | exact in_ok _ _ _ | (have hXz := in_ok _ _ _; simp only [go_sem, *] at hXz; exact hXz)))
    | (apply st_c; (case hc => (simp only [go_sem, *] <;> rfl)); (case hl => (simp only [go_sem, *] <;> rfl)); (case hn => (simp only [go_sem, *] <;> rfl)); (case hp => first | exact in_ok _ _ _ | (have hXz := in_ok _ _ _; simp only [go_sem, *] at hXz; exact hXz)))
    | (refine Awp.ret ?_; try simp only [go_sem, *])
    | (refine Awp.skip ?_; try simp only [go_sem, *])
    | (apply Awp.cond; (case hc => (simp only [go_sem, *] <;> rfl)); all_goals (intro hg; (try simp only [Bool.not_true, Bool.not_false, reduceCtorEq] at hg)))
    | refine Awp.seq ?_)
    all_goals repeat' (first | exact Lower.int (by first | rfl | (simp only [true_and, Bool.true_and, Bool.false_and, Bool.and_true, Bool.and_false, Bool.true_or, Bool.false_or, reduceIte, Bool.false_eq_true, *]; done) | (simp only [true_and, reduceIte, Bool.false_eq_true, *] <;> rfl) | (simp [true_and]; done) | (simp_all [true_and]; done) | omega))
  have h2' := h2
  unfold rngB sideB at h2'
  cases h3 : offB q x
  case true =>
    have h3' := h3
    rw [← roffB_eq] at h3'
    unfold roffB at h3'
    rcases Bool.or_eq_true_iff.1 h3' with hA | hA
    · clear h3'
      refine fn_pure Tryz.F54 (Nat.le_of_ble_eq_true rfl) ?_; unfold Tryz.ac54
      repeat' (first
    | (apply Awp.sreg; (case hn => (simp only [List.length_cons, List.length_nil, Nat.reduceAdd] <;> rfl)))
    | (apply Awp.sdraw; (case hn => (simp only [List.length_cons, List.length_nil, Nat.reduceAdd] <;> rfl)))
    | (refine st_nil ?_)
    | (apply st_a; (case hc => rfl); (case he => (simp only [go_sem, *] <;> rfl)); (case hu => (simp only [updL_nil, updL_cons] <;> rfl)); (case hp => first | trivial))
    | (apply st_m; (case hc => rfl); (case hg => (simp only [go_sem, *] <;> rfl)); (case he => (intro hQz; (try simp only [wantB_t, wantB_f, Bool.and_eq_true, Bool.not_eq_true', Bool.not_true, Bool.not_false, and_true, true_and] at hQz); simp only [go_sem, *] <;> rfl)); (case hp => (intro hQz; (try simp only [wantB_t, wantB_f, Bool.and_eq_true, Bool.not_eq_true', Bool.or_eq_false_iff, decide_eq_true_eq, decide_eq_false_iff_not, beq_iff_eq, beq_eq_false_iff_ne, bne_iff_ne, bne_eq_false_iff_eq, Int.not_lt, Int.not_le, Int.ofNat_lt, Int.ofNat_le] at hQz); first | trivial)))
    | (apply st_c; (case hc => (simp only [go_sem, *] <;> rfl)); (case hl => (simp only [go_sem, *] <;> rfl)); (case hn => (simp only [go_sem, *] <;> rfl)); (case hp => first | exact c1 | (have hXz := c1; simp only [go_sem, *] at hXz; exact hXz)))
    | (apply st_c; (case hc => (simp only [go_sem, *] <;> rfl)); (case hl => (simp only [go_sem, *] <;> rfl)); (case hn => (simp only [go_sem, *] <;> rfl)); (case hp => first | exact c0 | (have hXz := c0; simp only [go_sem, *] at hXz; exact hXz)))
    | (apply st_mc; (case hop => rfl); (case hg => (simp only [go_sem, *] <;> rfl)); (case hc => (intro hQz; (try simp only [wantB_t, wantB_f, Bool.and_eq_true, Bool.not_eq_true', Bool.not_true, Bool.not_false, and_true, true_and] at hQz); simp only [go_sem, *] <;> rfl)); (case hl => (intro hQz; (try simp only [wantB_t, wantB_f, Bool.and_eq_true, Bool.not_eq_true', Bool.not_true, Bool.not_false, and_true, true_and] at hQz); simp only [go_sem, *] <;> rfl)); (case hn => (intro hQz; (try simp only [wantB_t, wantB_f, Bool.and_eq_true, Bool.not_eq_true', Bool.not_true, Bool.not_false, and_true, true_and] at hQz); simp only [go_sem, *] <;> rfl)); (case hp => intro hQz; first | exact in_ok _ _ _ | (have hXz := in_ok _ _ _; simp only [go_sem, *] at hXz; exact hXz)))
    | (apply st_c; (case hc => (simp only [go_sem, *] <;> rfl)); (case hl => (simp only [go_sem, *] <;> rfl)); (case hn => (simp only [go_sem, *] <;> rfl)); (case hp => first | exact in_ok _ _ _ | (have hXz := in_ok _ _ _; simp only [go_sem, *] at hXz; exact hXz)))
    | (refine Awp.ret ?_; try simp only [go_sem, *])
    | (refine Awp.skip ?_; try simp only [go_sem, *])
    | (apply Awp.cond; (case hc => (simp only [go_sem, *] <;> rfl)); all_goals (intro hg; (try simp only [Bool.not_true, Bool.not_false, reduceCtorEq] at hg)))
    | refine Awp.seq ?_
    | (apply sl_a; (case hc => rfl); (case he => (simp only [go_sem, *] <;> rfl)); (case hu => (simp only [updL_nil, updL_cons] <;> rfl)); (case hl => (simp only [List.map_cons, List.map_nil] <;> rfl)); (case hp => first | trivial))
    | (apply sl_gn; (case hv => (simp only [go_sem, *] <;> rfl)); (case hbw => rfl))
    | (apply sl_c; (case hc => (simp only [go_sem, *] <;> rfl)); (case hl => (simp only [go_sem, *] <;> rfl)); (case hn => (simp only [go_sem, *] <;> rfl)); (case hp => first | exact in_ok _ _ _ | (have hXz := in_ok _ _ _; simp only [go_sem, *] at hXz; exact hXz)); (case hd => first | exact .inl rfl | exact .inr (.v _) | exact .inr .any | exact .inr .nils); (case hm => first | decide | (simp; done)))
    | (refine sl_nil (And.intro (by first | exact drawOk_of (by decide +kernel) | (simp only [List.map_cons, List.map_nil]; exact drawOk_of (by decide +kernel)) | decide) ?_)))
      all_goals repeat' (first | exact Lower.int (by first | rfl | (simp only [true_and, Bool.true_and, Bool.false_and, Bool.and_true, Bool.and_false, Bool.true_or, Bool.false_or, reduceIte, Bool.false_eq_true, *]; done) | (simp only [true_and, reduceIte, Bool.false_eq_true, *] <;> rfl) | (simp [true_and]; done) | (simp_all [true_and]; done) | omega))
    · cases hB : (!(decide (0 ≤ x.x) && decide (x.x ≤ IntKind.i64.wrap (q.len - x.len))))
      · clear h3'
        refine fn_pure Tryz.F54 (Nat.le_of_ble_eq_true rfl) ?_; unfold Tryz.ac54
        repeat' (first
    | (apply Awp.sreg; (case hn => (simp only [List.length_cons, List.length_nil, Nat.reduceAdd] <;> rfl)))
    | (apply Awp.sdraw; (case hn => (simp only [List.length_cons, List.length_nil, Nat.reduceAdd] <;> rfl)))
    | (refine st_nil ?_)
    | (apply st_a; (case hc => rfl); (case he => (simp only [go_sem, *] <;> rfl)); (case hu => (simp only [updL_nil, updL_cons] <;> rfl)); (case hp => first | trivial))
    | (apply st_m; (case hc => rfl); (case hg => (simp only [go_sem, *] <;> rfl)); (case he => (intro hQz; (try simp only [wantB_t, wantB_f, Bool.and_eq_true, Bool.not_eq_true', Bool.not_true, Bool.not_false, and_true, true_and] at hQz); simp only [go_sem, *] <;> rfl)); (case hp => (intro hQz; (try simp only [wantB_t, wantB_f, Bool.and_eq_true, Bool.not_eq_true', Bool.or_eq_false_iff, decide_eq_true_eq, decide_eq_false_iff_not, beq_iff_eq, beq_eq_false_iff_ne, bne_iff_ne, bne_eq_false_iff_eq, Int.not_lt, Int.not_le, Int.ofNat_lt, Int.ofNat_le] at hQz); first | trivial)))
    | (apply st_c; (case hc => (simp only [go_sem, *] <;> rfl)); (case hl => (simp only [go_sem, *] <;> rfl)); (case hn => (simp only [go_sem, *] <;> rfl)); (case hp => first | exact c1 | (have hXz := c1; simp only [go_sem, *] at hXz; exact hXz)))
    | (apply st_c; (case hc => (simp only [go_sem, *] <;> rfl)); (case hl => (simp only [go_sem, *] <;> rfl)); (case hn => (simp only [go_sem, *] <;> rfl)); (case hp => first | exact c0 | (have hXz := c0; simp only [go_sem, *] at hXz; exact hXz)))
    | (apply st_mc; (case hop => rfl); (case hg => (simp only [go_sem, *] <;> rfl)); (case hc => (intro hQz; (try simp only [wantB_t, wantB_f, Bool.and_eq_true, Bool.not_eq_true', Bool.not_true, Bool.not_false, and_true, true_and] at hQz); simp only [go_sem, *] <;> rfl)); (case hl => (intro hQz; (try simp only [wantB_t, wantB_f, Bool.and_eq_true, Bool.not_eq_true', Bool.not_true, Bool.not_false, and_true, true_and] at hQz); simp only [go_sem, *] <;> rfl)); (case hn => (intro hQz; (try simp only [wantB_t, wantB_f, Bool.and_eq_true, Bool.not_eq_true', Bool.not_true, Bool.not_false, and_true, true_and] at hQz); simp only [go_sem, *] <;> rfl)); (case hp => intro hQz; first | exact in_ok _ _ _ | (have hXz := in_ok _ _ _; simp only [go_sem, *] at hXz; exact hXz)))
    | (apply st_c; (case hc => (simp only [go_sem, *] <;> rfl)); (case hl => (simp only [go_sem, *] <;> rfl)); (case hn => (simp only [go_sem, *] <;> rfl)); (case hp => first | exact in_ok _ _ _ | (have hXz := in_ok _ _ _; simp only [go_sem, *] at hXz; exact hXz)))
    | (refine Awp.ret ?_; try simp only [go_sem, *])
    | (refine Awp.skip ?_; try simp only [go_sem, *])
    | (apply Awp.cond; (case hc => (simp only [go_sem, *] <;> rfl)); all_goals (intro hg; (try simp only [Bool.not_true, Bool.not_false, reduceCtorEq] at hg)))
    | refine Awp.seq ?_
    | (apply sl_a; (case hc => rfl); (case he => (simp only [go_sem, *] <;> rfl)); (case hu => (simp only [updL_nil, updL_cons] <;> rfl)); (case hl => (simp only [List.map_cons, List.map_nil] <;> rfl)); (case hp => first | trivial))
    | (apply sl_ga; (case hb => rfl); (case hv => (simp only [go_sem, *] <;> rfl)); (case he => (simp only [go_sem, *] <;> rfl)); (case hu => (simp only [updL_nil, updL_cons] <;> rfl)); (case hl => (simp only [List.map_cons, List.map_nil] <;> rfl)); (case hp => first | trivial))
    | (apply sl_c; (case hc => (simp only [go_sem, *] <;> rfl)); (case hl => (simp only [go_sem, *] <;> rfl)); (case hn => (simp only [go_sem, *] <;> rfl)); (case hp => first | exact in_ok _ _ _ | (have hXz := in_ok _ _ _; simp only [go_sem, *] at hXz; exact hXz)); (case hd => first | exact .inl rfl | exact .inr (.v _) | exact .inr .any | exact .inr .nils); (case hm => first | decide | (simp; done)))
    | (apply sl_cg; (case hop => rfl); (case hv => (simp only [go_sem, *] <;> rfl)); (case hc => (simp only [go_sem, *] <;> rfl)); (case hl => (simp only [go_sem, *] <;> rfl)); (case hn => (simp only [go_sem, *] <;> rfl)); (case hp => first | exact in_ok _ _ _ | (have hXz := in_ok _ _ _; simp only [go_sem, *] at hXz; exact hXz)); (case hd => first | exact .inl rfl | exact .inr (.v _) | exact .inr .any | exact .inr .nils); (case hm => first | decide | (simp; done)))
    | (refine sl_nil (And.intro (by first | exact drawOk_of (by decide +kernel) | (simp only [List.map_cons, List.map_nil]; exact drawOk_of (by decide +kernel)) | decide) ?_)))
        all_goals repeat' (first | exact Lower.int (by first | rfl | (simp only [true_and, Bool.true_and, Bool.false_and, Bool.and_true, Bool.and_false, Bool.true_or, Bool.false_or, reduceIte, Bool.false_eq_true, *]; done) | (simp only [true_and, reduceIte, Bool.false_eq_true, *] <;> rfl) | (simp [true_and]; done) | (simp_all [true_and]; done) | omega))
      · clear h3' hA
        refine fn_pure Tryz.F54 (Nat.le_of_ble_eq_true rfl) ?_; unfold Tryz.ac54
        repeat' (first
    | (apply Awp.sreg; (case hn => (simp only [List.length_cons, List.length_nil, Nat.reduceAdd] <;> rfl)))
    | (apply Awp.sdraw; (case hn => (simp only [List.length_cons, List.length_nil, Nat.reduceAdd] <;> rfl)))
    | (refine st_nil ?_)
    | (apply st_a; (case hc => rfl); (case he => (simp only [go_sem, *] <;> rfl)); (case hu => (simp only [updL_nil, updL_cons] <;> rfl)); (case hp => first | trivial))
    | (apply st_m; (case hc => rfl); (case hg => (simp only [go_sem, *] <;> rfl)); (case he => (intro hQz; (try simp only [wantB_t, wantB_f, Bool.and_eq_true, Bool.not_eq_true', Bool.not_true, Bool.not_false, and_true, true_and] at hQz); simp only [go_sem, *] <;> rfl)); (case hp => (intro hQz; (try simp only [wantB_t, wantB_f, Bool.and_eq_true, Bool.not_eq_true', Bool.or_eq_false_iff, decide_eq_true_eq, decide_eq_false_iff_not, beq_iff_eq, beq_eq_false_iff_ne, bne_iff_ne, bne_eq_false_iff_eq, Int.not_lt, Int.not_le, Int.ofNat_lt, Int.ofNat_le] at hQz); first | trivial)))
    | (apply st_c; (case hc => (simp only [go_sem, *] <;> rfl)); (case hl => (simp only [go_sem, *] <;> rfl)); (case hn => (simp only [go_sem, *] <;> rfl)); (case hp => first | exact c1 | (have hXz := c1; simp only [go_sem, *] at hXz; exact hXz)))
    | (apply st_c; (case hc => (simp only [go_sem, *] <;> rfl)); (case hl => (simp only [go_sem, *] <;> rfl)); (case hn => (simp only [go_sem, *] <;> rfl)); (case hp => first | exact c0 | (have hXz := c0; simp only [go_sem, *] at hXz; exact hXz)))
    | (apply st_mc; (case hop => rfl); (case hg => (simp only [go_sem, *] <;> rfl)); (case hc => (intro hQz; (try simp only [wantB_t, wantB_f, Bool.and_eq_true, Bool.not_eq_true', Bool.not_true, Bool.not_false, and_true, true_and] at hQz); simp only [go_sem, *] <;> rfl)); (case hl => (intro hQz; (try simp only [wantB_t, wantB_f, Bool.and_eq_true, Bool.not_eq_true', Bool.not_true, Bool.not_false, and_true, true_and] at hQz); simp only [go_sem, *] <;> rfl)); (case hn => (intro hQz; (try simp only [wantB_t, wantB_f, Bool.and_eq_true, Bool.not_eq_true', Bool.not_true, Bool.not_false, and_true, true_and] at hQz); simp only [go_sem, *] <;> rfl)); (case hp => intro hQz; first | exact in_ok _ _ _ | (have hXz := in_ok _ _ _; simp only [go_sem, *] at hXz; exact hXz)))
    | (apply st_c; (case hc => (simp only [go_sem, *] <;> rfl)); (case hl => (simp only [go_sem, *] <;> rfl)); (case hn => (simp only [go_sem, *] <;> rfl)); (case hp => first | exact in_ok _ _ _ | (have hXz := in_ok _ _ _; simp only [go_sem, *] at hXz; exact hXz)))
    | (refine Awp.ret ?_; try simp only [go_sem, *])
    | (refine Awp.skip ?_; try simp only [go_sem, *])
    | (apply Awp.cond; (case hc => (simp only [go_sem, *] <;> rfl)); all_goals (intro hg; (try simp only [Bool.not_true, Bool.not_false, reduceCtorEq] at hg)))
    | refine Awp.seq ?_
    | (apply sl_a; (case hc => rfl); (case he => (simp only [go_sem, *] <;> rfl)); (case hu => (simp only [updL_nil, updL_cons] <;> rfl)); (case hl => (simp only [List.map_cons, List.map_nil] <;> rfl)); (case hp => first | trivial))
    | (apply sl_gn; (case hv => (simp only [go_sem, *] <;> rfl)); (case hbw => rfl))
    | (apply sl_c; (case hc => (simp only [go_sem, *] <;> rfl)); (case hl => (simp only [go_sem, *] <;> rfl)); (case hn => (simp only [go_sem, *] <;> rfl)); (case hp => first | exact in_ok _ _ _ | (have hXz := in_ok _ _ _; simp only [go_sem, *] at hXz; exact hXz)); (case hd => first | exact .inl rfl | exact .inr (.v _) | exact .inr .any | exact .inr .nils); (case hm => first | decide | (simp; done)))
    | (refine sl_nil (And.intro (by first | exact drawOk_of (by decide +kernel) | (simp only [List.map_cons, List.map_nil]; exact drawOk_of (by decide +kernel)) | decide) ?_)))
        all_goals repeat' (first | exact Lower.int (by first | rfl | (simp only [true_and, Bool.true_and, Bool.false_and, Bool.and_true, Bool.and_false, Bool.true_or, Bool.false_or, reduceIte, Bool.false_eq_true, *]; done) | (simp only [true_and, reduceIte, Bool.false_eq_true, *] <;> rfl) | (simp [true_and]; done) | (simp_all [true_and]; done) | omega))
  have h3' := h3
  rw [← roffB_eq] at h3'
  unfold roffB at h3'
  obtain ⟨hA, hB⟩ := Bool.or_eq_false_iff.1 h3'
  clear h3'
  refine fn_pure Tryz.F54 (Nat.le_of_ble_eq_true rfl) ?_; unfold Tryz.ac54
  repeat' (first
    | (apply Awp.sreg; (case hn => (simp only [List.length_cons, List.length_nil, Nat.reduceAdd] <;> rfl)))
    | (apply Awp.sdraw; (case hn => (simp only [List.length_cons, List.length_nil, Nat.reduceAdd] <;> rfl)))
    | (refine st_nil ?_)
    | (apply st_a; (case hc => rfl); (case he => (simp only [go_sem, *] <;> rfl)); (case hu => (simp only [updL_nil, updL_cons] <;> rfl)); (case hp => first | trivial))
    | (apply st_m; (case hc => rfl); (case hg => (simp only [go_sem, *] <;> rfl)); (case he => (intro hQz; (try simp only [wantB_t, wantB_f, Bool.and_eq_true, Bool.not_eq_true', Bool.not_true, Bool.not_false, and_true, true_and] at hQz); simp only [go_sem, *] <;> rfl)); (case hp => (intro hQz; (try simp only [wantB_t, wantB_f, Bool.and_eq_true, Bool.not_eq_true', Bool.or_eq_false_iff, decide_eq_true_eq, decide_eq_false_iff_not, beq_iff_eq, beq_eq_false_iff_ne, bne_iff_ne, bne_eq_false_iff_eq, Int.not_lt, Int.not_le, Int.ofNat_lt, Int.ofNat_le] at hQz); first | trivial)))
    | (apply st_c; (case hc => (simp only [go_sem, *] <;> rfl)); (case hl => (simp only [go_sem, *] <;> rfl)); (case hn => (simp only [go_sem, *] <;> rfl)); (case hp => first | exact c1 | (have hXz := c1; simp only [go_sem, *] at hXz; exact hXz)))
    | (apply st_c; (case hc => (simp only [go_sem, *] <;> rfl)); (case hl => (simp only [go_sem, *] <;> rfl)); (case hn => (simp only [go_sem, *] <;> rfl)); (case hp => first | exact c0 | (have hXz := c0; simp only [go_sem, *] at hXz; exact hXz)))
    | (apply st_mc; (case hop => rfl); (case hg => (simp only [go_sem, *] <;> rfl)); (case hc => (intro hQz; (try simp only [wantB_t, wantB_f, Bool.and_eq_true, Bool.not_eq_true', Bool.not_true, Bool.not_false, and_true, true_and] at hQz); simp only [go_sem, *] <;> rfl)); (case hl => (intro hQz; (try simp only [wantB_t, wantB_f, Bool.and_eq_true, Bool.not_eq_true', Bool.not_true, Bool.not_false, and_true, true_and] at hQz); simp only [go_sem, *] <;> rfl)); (case hn => (intro hQz; (try simp only [wantB_t, wantB_f, Bool.and_eq_true, Bool.not_eq_true', Bool.not_true, Bool.not_false, and_true, true_and] at hQz); simp only [go_sem, *] <;> rfl)); (case hp => intro hQz; first | exact in_ok _ _ _ | (have hXz := in_ok _ _ _; simp only [go_sem, *] at hXz; exact hXz)))
    | (apply st_c; (case hc => (simp only [go_sem, *] <;> rfl)); (case hl => (simp only [go_sem, *] <;> rfl)); (case hn => (simp only [go_sem, *] <;> rfl)); (case hp => first | exact in_ok _ _ _ | (have hXz := in_ok _ _ _; simp only [go_sem, *] at hXz; exact hXz)))
    | (refine Awp.skip ?_; try simp only [go_sem, *])
    | refine Awp.block ?_
    | (apply Awp.cond; (case hc => (simp only [go_sem, *] <;> rfl)); all_goals (intro hg; (try simp only [Bool.not_true, Bool.not_false, reduceCtorEq] at hg)))
    | refine Awp.seq ?_
    | (apply sl_a; (case hc => rfl); (case he => (simp only [go_sem, *] <;> rfl)); (case hu => (simp only [updL_nil, updL_cons] <;> rfl)); (case hl => (simp only [List.map_cons, List.map_nil] <;> rfl)); (case hp => first | trivial))
    | (apply sl_ga; (case hb => rfl); (case hv => (simp only [go_sem, *] <;> rfl)); (case he => (simp only [go_sem, *] <;> rfl)); (case hu => (simp only [updL_nil, updL_cons] <;> rfl)); (case hl => (simp only [List.map_cons, List.map_nil] <;> rfl)); (case hp => first | trivial))
    | (apply sl_c; (case hc => (simp only [go_sem, *] <;> rfl)); (case hl => (simp only [go_sem, *] <;> rfl)); (case hn => (simp only [go_sem, *] <;> rfl)); (case hp => first | exact in_ok _ _ _ | (have hXz := in_ok _ _ _; simp only [go_sem, *] at hXz; exact hXz)); (case hd => first | exact .inl rfl | exact .inr (.v _) | exact .inr .any | exact .inr .nils); (case hm => first | decide | (simp; done)))
    | (apply sl_cg; (case hop => rfl); (case hv => (simp only [go_sem, *] <;> rfl)); (case hc => (simp only [go_sem, *] <;> rfl)); (case hl => (simp only [go_sem, *] <;> rfl)); (case hn => (simp only [go_sem, *] <;> rfl)); (case hp => first | exact in_ok _ _ _ | (have hXz := in_ok _ _ _; simp only [go_sem, *] at hXz; exact hXz)); (case hd => first | exact .inl rfl | exact .inr (.v _) | exact .inr .any | exact .inr .nils); (case hm => first | decide | (simp; done)))
    | (refine sl_nil (And.intro (by first | exact drawOk_of (by decide +kernel) | (simp only [List.map_cons, List.map_nil]; exact drawOk_of (by decide +kernel)) | decide) ?_)))
  refine Awp.loop (fun i : Nat => i ≤ l.length ∧ ∀ j, j < i → overB x (l.getD j zeroSty) = false) 90 (fun i => mkS [(1, .sl (stys l)), (5, .bp 0 0), (8, .v (.int .i64 i))] [(0, .box x.cells)]) (fun i => l.length - i) 0 (by simp) ?_ ?_
  · (apply Ghost.mk [] []; (case hdead => rfl); (case hinj => rfl); (case hV => (simp only [go_sem, *]) <;> (repeat' (first | refine And.intro ?_ ?_ | exact View.int (by first | rfl | omega | (simp; done) | (rw [wrap_i64] <;> (try simp only [Int.natCast_add]) <;> omega) | (simp [*]; done)) | exact .bp rfl (by decide)))); (case hB => (simp only [go_sem, *]) <;> (repeat' (first | exact ⟨_, rfl, BView.boxF rfl⟩))))
  · intro i ⟨hi, hj⟩
    by_cases hli : i < l.length
    · have hli' : (i : Int) < l.length := by omega
      have hat2 := stys_at l i hli
      have hz2 : ((l.getD i zeroSty).cells).length = 8 := rfl
      have c3 := rover_ok (l.getD i zeroSty) x
      clear c0 c1 hat hz h1 h2 h2' h3 hA hB hI
      cases hov : overB x (l.getD i zeroSty)
      · rw [hov] at c3
        repeat' (first
    | (apply Awp.sreg; (case hn => (simp only [List.length_cons, List.length_nil, Nat.reduceAdd] <;> rfl)))
    | (apply Awp.sdraw; (case hn => (simp only [List.length_cons, List.length_nil, Nat.reduceAdd] <;> rfl)))
    | (refine st_nil ?_)
    | (apply st_a; (case hc => rfl); (case he => (simp only [go_sem, *] <;> rfl)); (case hu => (simp only [updL_nil, updL_cons] <;> rfl)); (case hp => first | trivial))
    | (apply Awp.reg; (case hn => (simp only [List.length_cons, List.length_nil, Nat.reduceAdd] <;> rfl)))
    | (refine Awp.skip ?_; try simp only [go_sem, *])
    | refine Awp.block ?_
    | (apply Awp.cond; (case hc => (simp only [go_sem, *] <;> rfl)); all_goals (intro hg; (try simp only [Bool.not_true, Bool.not_false, reduceCtorEq] at hg)))
    | refine Awp.seq ?_
    | (apply sl_a; (case hc => rfl); (case he => (simp only [go_sem, *] <;> rfl)); (case hu => (simp only [updL_nil, updL_cons] <;> rfl)); (case hl => (simp only [List.map_cons, List.map_nil] <;> rfl)); (case hp => first | trivial | omega))
    | (apply sl_c; (case hc => (simp only [go_sem, *] <;> rfl)); (case hl => (simp only [go_sem, *] <;> rfl)); (case hn => (simp only [go_sem, *] <;> rfl)); (case hp => first | exact c3 | (have hXz := c3; simp only [go_sem, *] at hXz; exact hXz)); (case hd => first | exact .inl rfl | exact .inr (.v _) | exact .inr .any | exact .inr .nils); (case hm => first | decide | (simp; done)))
    | (refine sl_nil (And.intro (by first | exact drawOk_of (by decide +kernel) | (simp only [List.map_cons, List.map_nil]; exact drawOk_of (by decide +kernel)) | decide) ?_)))
        refine ⟨i + 1, ⟨by omega, ltSucc hj hov⟩, by omega, ?_⟩
        (apply Ghost.mk [] []; (case hdead => rfl); (case hinj => rfl); (case hV => (simp only [go_sem, *]) <;> (repeat' (first | refine And.intro ?_ ?_ | exact View.int (by first | rfl | omega | (simp; done) | (rw [wrap_i64] <;> (try simp only [Int.natCast_add]) <;> omega) | (simp [*]; done)) | exact .bp rfl (by decide)))); (case hB => (simp only [go_sem, *]) <;> (repeat' (first | exact ⟨_, rfl, BView.boxF rfl⟩))))
      · rw [hov] at c3
        have han := any_in hli hov
        repeat' (first
    | (apply Awp.sreg; (case hn => (simp only [List.length_cons, List.length_nil, Nat.reduceAdd] <;> rfl)))
    | (apply Awp.sdraw; (case hn => (simp only [List.length_cons, List.length_nil, Nat.reduceAdd] <;> rfl)))
    | (refine st_nil ?_)
    | (apply st_a; (case hc => rfl); (case he => (simp only [go_sem, *] <;> rfl)); (case hu => (simp only [updL_nil, updL_cons] <;> rfl)); (case hp => first | trivial))
    | (refine Awp.ret ?_; try simp only [go_sem, *])
    | (refine Awp.skip ?_; try simp only [go_sem, *])
    | refine Awp.block ?_
    | (apply Awp.cond; (case hc => (simp only [go_sem, *] <;> rfl)); all_goals (intro hg; (try simp only [Bool.not_true, Bool.not_false, reduceCtorEq] at hg)))
    | refine Awp.seq ?_
    | (apply sl_a; (case hc => rfl); (case he => (simp only [go_sem, *] <;> rfl)); (case hu => (simp only [updL_nil, updL_cons] <;> rfl)); (case hl => (simp only [List.map_cons, List.map_nil] <;> rfl)); (case hp => first | trivial | omega))
    | (apply sl_c; (case hc => (simp only [go_sem, *] <;> rfl)); (case hl => (simp only [go_sem, *] <;> rfl)); (case hn => (simp only [go_sem, *] <;> rfl)); (case hp => first | exact c3 | (have hXz := c3; simp only [go_sem, *] at hXz; exact hXz)); (case hd => first | exact .inl rfl | exact .inr (.v _) | exact .inr .any | exact .inr .nils); (case hm => first | decide | (simp; done)))
    | (refine sl_nil (And.intro (by first | exact drawOk_of (by decide +kernel) | (simp only [List.map_cons, List.map_nil]; exact drawOk_of (by decide +kernel)) | decide) ?_)))
        all_goals repeat' (first | exact Lower.int (by first | rfl | (simp only [true_and, Bool.true_and, Bool.false_and, Bool.and_true, Bool.and_false, Bool.true_or, Bool.false_or, reduceIte, Bool.false_eq_true, *]; done) | (simp only [true_and, reduceIte, Bool.false_eq_true, *] <;> rfl) | (simp [true_and]; done) | (simp_all [true_and]; done) | omega))
    · have hli' : ¬ (i : Int) < l.length := by omega
      have han := any_end (Nat.le_of_not_lt hli) hj
      repeat' (first
    | (apply Awp.sreg; (case hn => (simp only [List.length_cons, List.length_nil, Nat.reduceAdd] <;> rfl)))
    | (refine st_nil ?_)
    | (apply st_a; (case hc => rfl); (case he => (simp only [go_sem, *] <;> rfl)); (case hu => (simp only [updL_nil, updL_cons] <;> rfl)); (case hp => first | trivial))
    | (refine Awp.ret ?_; try simp only [go_sem, *])
    | (refine Awp.exit ?_; try simp only [go_sem, *])
    | (apply Awp.cond; (case hc => (simp only [go_sem, *] <;> rfl)); all_goals (intro hg; (try simp only [Bool.not_true, Bool.not_false, reduceCtorEq] at hg)))
    | refine Awp.seq ?_)
      all_goals repeat' (first | exact Lower.int (by first | rfl | (simp only [true_and, Bool.true_and, Bool.false_and, Bool.and_true, Bool.and_false, Bool.true_or, Bool.false_or, reduceIte, Bool.false_eq_true, *]; done) | (simp only [true_and, reduceIte, Bool.false_eq_true, *] <;> rfl) | (simp [true_and]; done) | (simp_all [true_and]; done) | omega))
end Go.Proofs
end
section
set_option linter.unusedVariables false
set_option linter.unusedSimpArgs false
namespace Go.Proofs
open Go Go.Ab
set_option maxHeartbeats 4000000
set_option maxRecDepth 100000
set_option linter.unusedSimpArgs false
set_option linter.unusedVariables false
attribute [local irreducible] Awp aops aopsL Go.Ab.Pure PureOwn
theorem findB_two (l : List By) (nm : ByteArray) : (findB l nm).2 = decide (0 ≤ idxF (fun q : By => q.nm.toList == nm.toList) l) := by
  unfold findB
  by_cases h : idxF (fun q : By => q.nm.toList == nm.toList) l < 0
  · rw [if_pos (by simpa using h)]
    symm
    simpa using h
  · rw [if_neg (by simpa using h)]
    symm
    simpa using h
theorem floors_ok (bs : List By) (hb : bs.length < 100000) : Pure Tryz.prog 53 [.sl (bys bs)] (.v (.int .i64 (firstE (bayAt bs) bs.length))) := by
  refine fn_pure Tryz.F53 (Nat.le_of_ble_eq_true rfl) ?_; unfold Tryz.ac53
  repeat' (first
    | (apply Awp.sreg; (case hn => (simp only [List.length_cons, List.length_nil, Nat.reduceAdd] <;> rfl)))
    | (refine st_nil ?_)
    | (apply st_a; (case hc => rfl); (case he => (simp only [go_sem, *] <;> rfl)); (case hu => (simp only [updL_nil, updL_cons] <;> rfl)); (case hp => first | trivial))
    | refine Awp.block ?_
    | refine Awp.seq ?_)
  refine Awp.loop (fun i : Nat => i ≤ bs.length ∧ ∀ j, j < i → bayAt bs j = 0) 40 (fun i => mkS [(0, .sl (bys bs)), (3, .v (.int .i64 i))] []) (fun i => bs.length - i) 0 (by simp) ?_ ?_
  · (apply Ghost.mk [] []; (case hdead => rfl); (case hinj => rfl); (case hV => (simp only [go_sem, *]) <;> (repeat' (first | exact View.int (by first | rfl | omega | (simp; done) | (rw [wrap_i64] <;> (try simp only [Int.natCast_add]) <;> omega) | (simp [*]; done))))); (case hB => (simp only [go_sem, *]) <;> (repeat' (first | skip; done))))
  · intro i ⟨hi, hj⟩
    by_cases hlt : i < bs.length
    · have hlt' : (i : Int) < bs.length := by omega
      have hat := bys_at bs i hlt
      have hz : ((bs.getD i zeroBy).cells).length = 3 := rfl
      have h3 := bys_one bs
      have ht := bys_take bs i
      have c0 := rname_ok (bs.getD i zeroBy).nm
      have c1 := rfind_ok (bs.take i) (bs.getD i zeroBy).nm (by simp; omega)
      have hle : (i : Int) ≤ bs.length := by omega
      have h00 : (0 : Int) ≤ i := by omega
      have hF := findB_two (bs.take i) (bs.getD i zeroBy).nm
      have hbad : ∀ {e : Int}, bayAt bs i = e → e ≠ 0 → e = firstE (bayAt bs) bs.length := fun h he => by
        rw [← h, firstE_bad hlt (by rw [h]; exact he) hj]
      generalize hI : idxF (fun q : By => q.nm.toList == (bs.getD i zeroBy).nm.toList) (bs.take i) = I at *
      have hs1 : sideB (bs.getD i zeroBy).len = (decide (1 ≤ (bs.getD i zeroBy).len) && decide ((bs.getD i zeroBy).len ≤ 524288)) := rfl
      have hs2 : sideB (bs.getD i zeroBy).wid = (decide (1 ≤ (bs.getD i zeroBy).wid) && decide ((bs.getD i zeroBy).wid ≤ 524288)) := rfl
      have hba : bayAt bs i = if !nameB (bs.getD i zeroBy).nm then 6 else if !sideB (bs.getD i zeroBy).len || !sideB (bs.getD i zeroBy).wid then 9 else if decide (0 ≤ I) then 7 else 0 := by unfold bayAt; rw [hF]
      rw [hs1, hs2] at hba
      clear hs1 hs2 hF hI
      generalize nameB (bs.getD i zeroBy).nm = nb at *
      cases nb
      · repeat' (first
    | (apply Awp.sreg; (case hn => (simp only [List.length_cons, List.length_nil, Nat.reduceAdd] <;> rfl)))
    | (refine st_nil ?_)
    | (apply st_a; (case hc => rfl); (case he => (simp only [go_sem, *] <;> rfl)); (case hu => (simp only [updL_nil, updL_cons] <;> rfl)); (case hp => first | trivial))
    | (apply st_c; (case hc => (simp only [go_sem, *] <;> rfl)); (case hl => (simp only [go_sem, *] <;> rfl)); (case hn => (simp only [go_sem, *] <;> rfl)); (case hp => first | exact c0 | (have hXz := c0; simp only [go_sem, *] at hXz; exact hXz)))
    | (refine Awp.ret ?_; try simp only [go_sem, *])
    | (refine Awp.skip ?_; try simp only [go_sem, *])
    | refine Awp.block ?_
    | (apply Awp.cond; (case hc => (simp only [go_sem, *] <;> rfl)); all_goals (intro hg; (try simp only [Bool.not_true, Bool.not_false, reduceCtorEq] at hg)))
    | refine Awp.seq ?_)
        exact Lower.int (hbad hba (by decide))
      generalize hS : (!(decide (1 ≤ (bs.getD i zeroBy).len) && decide ((bs.getD i zeroBy).len ≤ 524288)) || !(decide (1 ≤ (bs.getD i zeroBy).wid) && decide ((bs.getD i zeroBy).wid ≤ 524288))) = sb at hba
      cases sb
      · cases hI : decide (0 ≤ I)
        · rw [hI] at hba
          repeat' (first
    | (apply Awp.sreg; (case hn => (simp only [List.length_cons, List.length_nil, Nat.reduceAdd] <;> rfl)))
    | (apply Awp.sdraw; (case hn => (simp only [List.length_cons, List.length_nil, Nat.reduceAdd] <;> rfl)))
    | (refine st_nil ?_)
    | (apply st_a; (case hc => rfl); (case he => (simp only [go_sem, *] <;> rfl)); (case hu => (simp only [updL_nil, updL_cons] <;> rfl)); (case hp => first | trivial))
    | (apply st_m; (case hc => rfl); (case hg => (simp only [go_sem, *] <;> rfl)); (case he => (intro hQz; (try simp only [wantB_t, wantB_f, Bool.and_eq_true, Bool.not_eq_true', Bool.not_true, Bool.not_false, and_true, true_and] at hQz); simp only [go_sem, *] <;> rfl)); (case hp => (intro hQz; (try simp only [wantB_t, wantB_f, Bool.and_eq_true, Bool.not_eq_true', Bool.or_eq_false_iff, decide_eq_true_eq, decide_eq_false_iff_not, beq_iff_eq, beq_eq_false_iff_ne, bne_iff_ne, bne_eq_false_iff_eq, Int.not_lt, Int.not_le, Int.ofNat_lt, Int.ofNat_le] at hQz); first | trivial)))
    | (apply st_c; (case hc => (simp only [go_sem, *] <;> rfl)); (case hl => (simp only [go_sem, *] <;> rfl)); (case hn => (simp only [go_sem, *] <;> rfl)); (case hp => first | exact c0 | (have hXz := c0; simp only [go_sem, *] at hXz; exact hXz)))
    | (apply st_mc; (case hop => rfl); (case hg => (simp only [go_sem, *] <;> rfl)); (case hc => (intro hQz; (try simp only [wantB_t, wantB_f, Bool.and_eq_true, Bool.not_eq_true', Bool.not_true, Bool.not_false, and_true, true_and] at hQz); simp only [go_sem, *] <;> rfl)); (case hl => (intro hQz; (try simp only [wantB_t, wantB_f, Bool.and_eq_true, Bool.not_eq_true', Bool.not_true, Bool.not_false, and_true, true_and] at hQz); simp only [go_sem, *] <;> rfl)); (case hn => (intro hQz; (try simp only [wantB_t, wantB_f, Bool.and_eq_true, Bool.not_eq_true', Bool.not_true, Bool.not_false, and_true, true_and] at hQz); simp only [go_sem, *] <;> rfl)); (case hp => intro hQz; first | exact in_ok _ _ _ | (have hXz := in_ok _ _ _; simp only [go_sem, *] at hXz; exact hXz)))
    | (apply st_c; (case hc => (simp only [go_sem, *] <;> rfl)); (case hl => (simp only [go_sem, *] <;> rfl)); (case hn => (simp only [go_sem, *] <;> rfl)); (case hp => first | exact in_ok _ _ _ | (have hXz := in_ok _ _ _; simp only [go_sem, *] at hXz; exact hXz)))
    | (apply Awp.reg; (case hn => (simp only [List.length_cons, List.length_nil, Nat.reduceAdd] <;> rfl)))
    | (refine Awp.skip ?_; try simp only [go_sem, *])
    | refine Awp.block ?_
    | (apply Awp.cond; (case hc => (simp only [go_sem, *] <;> rfl)); all_goals (intro hg; (try simp only [Bool.not_true, Bool.not_false, reduceCtorEq] at hg)))
    | refine Awp.seq ?_
    | (apply sl_a; (case hc => rfl); (case he => (simp only [go_sem, *] <;> rfl)); (case hu => (simp only [updL_nil, updL_cons] <;> rfl)); (case hl => (simp only [List.map_cons, List.map_nil] <;> rfl)); (case hp => first | trivial))
    | (apply sl_c; (case hc => (simp only [go_sem, *] <;> rfl)); (case hl => (simp only [go_sem, *] <;> rfl)); (case hn => (simp only [go_sem, *] <;> rfl)); (case hp => first | exact c1 | (have hXz := c1; simp only [go_sem, *] at hXz; exact hXz)); (case hd => first | exact .inl rfl | exact .inr (.v _) | exact .inr .any | exact .inr .nils); (case hm => first | decide | (simp; done)))
    | (refine sl_nil (And.intro (by first | exact drawOk_of (by decide +kernel) | (simp only [List.map_cons, List.map_nil]; exact drawOk_of (by decide +kernel)) | decide) ?_)))
          refine ⟨i + 1, ⟨by omega, ltSucc hj hba⟩, by omega, ?_⟩
          (apply Ghost.mk [] []; (case hdead => rfl); (case hinj => rfl); (case hV => (simp only [go_sem, *]) <;> (repeat' (first | exact View.int (by first | rfl | omega | (simp; done) | (rw [wrap_i64] <;> (try simp only [Int.natCast_add]) <;> omega) | (simp [*]; done))))); (case hB => (simp only [go_sem, *]) <;> (repeat' (first | skip; done))))
        · rw [hI] at hba
          repeat' (first
    | (apply Awp.sreg; (case hn => (simp only [List.length_cons, List.length_nil, Nat.reduceAdd] <;> rfl)))
    | (apply Awp.sdraw; (case hn => (simp only [List.length_cons, List.length_nil, Nat.reduceAdd] <;> rfl)))
    | (refine st_nil ?_)
    | (apply st_a; (case hc => rfl); (case he => (simp only [go_sem, *] <;> rfl)); (case hu => (simp only [updL_nil, updL_cons] <;> rfl)); (case hp => first | trivial))
    | (apply st_m; (case hc => rfl); (case hg => (simp only [go_sem, *] <;> rfl)); (case he => (intro hQz; (try simp only [wantB_t, wantB_f, Bool.and_eq_true, Bool.not_eq_true', Bool.not_true, Bool.not_false, and_true, true_and] at hQz); simp only [go_sem, *] <;> rfl)); (case hp => (intro hQz; (try simp only [wantB_t, wantB_f, Bool.and_eq_true, Bool.not_eq_true', Bool.or_eq_false_iff, decide_eq_true_eq, decide_eq_false_iff_not, beq_iff_eq, beq_eq_false_iff_ne, bne_iff_ne, bne_eq_false_iff_eq, Int.not_lt, Int.not_le, Int.ofNat_lt, Int.ofNat_le] at hQz); first | trivial)))
    | (apply st_c; (case hc => (simp only [go_sem, *] <;> rfl)); (case hl => (simp only [go_sem, *] <;> rfl)); (case hn => (simp only [go_sem, *] <;> rfl)); (case hp => first | exact c0 | (have hXz := c0; simp only [go_sem, *] at hXz; exact hXz)))
    | (apply st_mc; (case hop => rfl); (case hg => (simp only [go_sem, *] <;> rfl)); (case hc => (intro hQz; (try simp only [wantB_t, wantB_f, Bool.and_eq_true, Bool.not_eq_true', Bool.not_true, Bool.not_false, and_true, true_and] at hQz); simp only [go_sem, *] <;> rfl)); (case hl => (intro hQz; (try simp only [wantB_t, wantB_f, Bool.and_eq_true, Bool.not_eq_true', Bool.not_true, Bool.not_false, and_true, true_and] at hQz); simp only [go_sem, *] <;> rfl)); (case hn => (intro hQz; (try simp only [wantB_t, wantB_f, Bool.and_eq_true, Bool.not_eq_true', Bool.not_true, Bool.not_false, and_true, true_and] at hQz); simp only [go_sem, *] <;> rfl)); (case hp => intro hQz; first | exact in_ok _ _ _ | (have hXz := in_ok _ _ _; simp only [go_sem, *] at hXz; exact hXz)))
    | (apply st_c; (case hc => (simp only [go_sem, *] <;> rfl)); (case hl => (simp only [go_sem, *] <;> rfl)); (case hn => (simp only [go_sem, *] <;> rfl)); (case hp => first | exact in_ok _ _ _ | (have hXz := in_ok _ _ _; simp only [go_sem, *] at hXz; exact hXz)))
    | (refine Awp.ret ?_; try simp only [go_sem, *])
    | (refine Awp.skip ?_; try simp only [go_sem, *])
    | refine Awp.block ?_
    | (apply Awp.cond; (case hc => (simp only [go_sem, *] <;> rfl)); all_goals (intro hg; (try simp only [Bool.not_true, Bool.not_false, reduceCtorEq] at hg)))
    | refine Awp.seq ?_
    | (apply sl_a; (case hc => rfl); (case he => (simp only [go_sem, *] <;> rfl)); (case hu => (simp only [updL_nil, updL_cons] <;> rfl)); (case hl => (simp only [List.map_cons, List.map_nil] <;> rfl)); (case hp => first | trivial))
    | (apply sl_c; (case hc => (simp only [go_sem, *] <;> rfl)); (case hl => (simp only [go_sem, *] <;> rfl)); (case hn => (simp only [go_sem, *] <;> rfl)); (case hp => first | exact c1 | (have hXz := c1; simp only [go_sem, *] at hXz; exact hXz)); (case hd => first | exact .inl rfl | exact .inr (.v _) | exact .inr .any | exact .inr .nils); (case hm => first | decide | (simp; done)))
    | (refine sl_nil (And.intro (by first | exact drawOk_of (by decide +kernel) | (simp only [List.map_cons, List.map_nil]; exact drawOk_of (by decide +kernel)) | decide) ?_)))
          exact Lower.int (hbad hba (by decide))
      · repeat' (first
    | (apply Awp.sreg; (case hn => (simp only [List.length_cons, List.length_nil, Nat.reduceAdd] <;> rfl)))
    | (refine st_nil ?_)
    | (apply st_a; (case hc => rfl); (case he => (simp only [go_sem, *] <;> rfl)); (case hu => (simp only [updL_nil, updL_cons] <;> rfl)); (case hp => first | trivial))
    | (apply st_m; (case hc => rfl); (case hg => (simp only [go_sem, *] <;> rfl)); (case he => (intro hQz; (try simp only [wantB_t, wantB_f, Bool.and_eq_true, Bool.not_eq_true', Bool.not_true, Bool.not_false, and_true, true_and] at hQz); simp only [go_sem, *] <;> rfl)); (case hp => (intro hQz; (try simp only [wantB_t, wantB_f, Bool.and_eq_true, Bool.not_eq_true', Bool.or_eq_false_iff, decide_eq_true_eq, decide_eq_false_iff_not, beq_iff_eq, beq_eq_false_iff_ne, bne_iff_ne, bne_eq_false_iff_eq, Int.not_lt, Int.not_le, Int.ofNat_lt, Int.ofNat_le] at hQz); first | trivial)))
    | (apply st_c; (case hc => (simp only [go_sem, *] <;> rfl)); (case hl => (simp only [go_sem, *] <;> rfl)); (case hn => (simp only [go_sem, *] <;> rfl)); (case hp => first | exact c0 | (have hXz := c0; simp only [go_sem, *] at hXz; exact hXz)))
    | (apply st_mc; (case hop => rfl); (case hg => (simp only [go_sem, *] <;> rfl)); (case hc => (intro hQz; (try simp only [wantB_t, wantB_f, Bool.and_eq_true, Bool.not_eq_true', Bool.not_true, Bool.not_false, and_true, true_and] at hQz); simp only [go_sem, *] <;> rfl)); (case hl => (intro hQz; (try simp only [wantB_t, wantB_f, Bool.and_eq_true, Bool.not_eq_true', Bool.not_true, Bool.not_false, and_true, true_and] at hQz); simp only [go_sem, *] <;> rfl)); (case hn => (intro hQz; (try simp only [wantB_t, wantB_f, Bool.and_eq_true, Bool.not_eq_true', Bool.not_true, Bool.not_false, and_true, true_and] at hQz); simp only [go_sem, *] <;> rfl)); (case hp => intro hQz; first | exact in_ok _ _ _ | (have hXz := in_ok _ _ _; simp only [go_sem, *] at hXz; exact hXz)))
    | (apply st_c; (case hc => (simp only [go_sem, *] <;> rfl)); (case hl => (simp only [go_sem, *] <;> rfl)); (case hn => (simp only [go_sem, *] <;> rfl)); (case hp => first | exact in_ok _ _ _ | (have hXz := in_ok _ _ _; simp only [go_sem, *] at hXz; exact hXz)))
    | (refine Awp.ret ?_; try simp only [go_sem, *])
    | (refine Awp.skip ?_; try simp only [go_sem, *])
    | refine Awp.block ?_
    | (apply Awp.cond; (case hc => (simp only [go_sem, *] <;> rfl)); all_goals (intro hg; (try simp only [Bool.not_true, Bool.not_false, reduceCtorEq] at hg)))
    | refine Awp.seq ?_)
        exact Lower.int (hbad hba (by decide))
    · have hlt' : ¬ (i : Int) < bs.length := by omega
      have hfe := firstE_end (Nat.le_of_not_lt hlt) hj
      clear hj
      repeat' (first
    | (apply Awp.sreg; (case hn => (simp only [List.length_cons, List.length_nil, Nat.reduceAdd] <;> rfl)))
    | (refine st_nil ?_)
    | (apply st_a; (case hc => rfl); (case he => (simp only [go_sem, *] <;> rfl)); (case hu => (simp only [updL_nil, updL_cons] <;> rfl)); (case hp => first | trivial))
    | (refine Awp.ret ?_; try simp only [go_sem, *])
    | (refine Awp.exit ?_; try simp only [go_sem, *])
    | (apply Awp.cond; (case hc => (simp only [go_sem, *] <;> rfl)); all_goals (intro hg; (try simp only [Bool.not_true, Bool.not_false, reduceCtorEq] at hg)))
    | refine Awp.seq ?_)
      all_goals repeat' (first | exact Lower.int (by first | rfl | (simp only [true_and, Bool.true_and, Bool.false_and, Bool.and_true, Bool.and_false, Bool.true_or, Bool.false_or, reduceIte, Bool.false_eq_true, *]; done) | (simp only [true_and, reduceIte, Bool.false_eq_true, *] <;> rfl) | (simp [true_and]; done) | (simp_all [true_and]; done) | omega))
theorem rcheck_ok (bs : List By) (l : List Sty) (hb : bs.length < 100000) (hl : l.length < 100000) (hs : ∀ i, i < l.length → (l.getD i zeroSty).item.size < 1000000) : Pure Tryz.prog 30 [.sl (bys bs), .sl (stys l)] (.v (.int .i64 (checkE bs l))) := by
  have c9 := floors_ok bs hb
  by_cases hL : (decide ((8 : Int) < bs.length) || decide ((128 : Int) < l.length)) = true
  · unfold checkE
    rw [if_pos hL]
    refine fn_pure Tryz.F30 (Nat.le_of_ble_eq_true rfl) ?_; unfold Tryz.ac30
    repeat' (first
    | (apply Awp.sreg; (case hn => (simp only [List.length_cons, List.length_nil, Nat.reduceAdd] <;> rfl)))
    | (refine st_nil ?_)
    | (apply st_a; (case hc => rfl); (case he => (simp only [go_sem, *] <;> rfl)); (case hu => (simp only [updL_nil, updL_cons] <;> rfl)); (case hp => first | trivial))
    | (apply st_m; (case hc => rfl); (case hg => (simp only [go_sem, *] <;> rfl)); (case he => (intro hQz; (try simp only [wantB_t, wantB_f, Bool.and_eq_true, Bool.not_eq_true', Bool.not_true, Bool.not_false, and_true, true_and] at hQz); simp only [go_sem, *] <;> rfl)); (case hp => (intro hQz; (try simp only [wantB_t, wantB_f, Bool.and_eq_true, Bool.not_eq_true', Bool.or_eq_false_iff, decide_eq_true_eq, decide_eq_false_iff_not, beq_iff_eq, beq_eq_false_iff_ne, bne_iff_ne, bne_eq_false_iff_eq, Int.not_lt, Int.not_le, Int.ofNat_lt, Int.ofNat_le] at hQz); first | trivial)))
    | (refine Awp.ret ?_; try simp only [go_sem, *])
    | (apply Awp.cond; (case hc => (simp only [go_sem, *] <;> rfl)); all_goals (intro hg; (try simp only [Bool.not_true, Bool.not_false, reduceCtorEq] at hg)))
    | refine Awp.seq ?_)
    all_goals first | repeat' (first | exact Lower.int (by first | rfl | (simp only [true_and, Bool.true_and, Bool.false_and, Bool.and_true, Bool.and_false, Bool.true_or, Bool.false_or, reduceIte, Bool.false_eq_true, *]; done) | (simp only [true_and, reduceIte, Bool.false_eq_true, *] <;> rfl) | (simp [true_and]; done) | (simp_all [true_and]; done) | omega)) | skip
    all_goals (exfalso; simp_all)
  have hL' : (decide ((8 : Int) < bs.length) || decide ((128 : Int) < l.length)) = false := by simpa using hL
  clear hL
  by_cases hfe : firstE (bayAt bs) bs.length = 0
  case neg =>
    have h1 : checkE bs l = firstE (bayAt bs) bs.length := by
      unfold checkE
      rw [if_neg (by rw [hL']; simp), if_pos (by simpa using hfe)]
    have h2 : (firstE (bayAt bs) bs.length != 0) = true := by simpa using hfe
    rw [h1]
    clear h1 hfe
    generalize firstE (bayAt bs) bs.length = e at *
    refine fn_pure Tryz.F30 (Nat.le_of_ble_eq_true rfl) ?_; unfold Tryz.ac30
    repeat' (first
    | (apply Awp.sreg; (case hn => (simp only [List.length_cons, List.length_nil, Nat.reduceAdd] <;> rfl)))
    | (refine st_nil ?_)
    | (apply st_a; (case hc => rfl); (case he => (simp only [go_sem, *] <;> rfl)); (case hu => (simp only [updL_nil, updL_cons] <;> rfl)); (case hp => first | trivial))
    | (apply st_m; (case hc => rfl); (case hg => (simp only [go_sem, *] <;> rfl)); (case he => (intro hQz; (try simp only [wantB_t, wantB_f, Bool.and_eq_true, Bool.not_eq_true', Bool.not_true, Bool.not_false, and_true, true_and] at hQz); simp only [go_sem, *] <;> rfl)); (case hp => (intro hQz; (try simp only [wantB_t, wantB_f, Bool.and_eq_true, Bool.not_eq_true', Bool.or_eq_false_iff, decide_eq_true_eq, decide_eq_false_iff_not, beq_iff_eq, beq_eq_false_iff_ne, bne_iff_ne, bne_eq_false_iff_eq, Int.not_lt, Int.not_le, Int.ofNat_lt, Int.ofNat_le] at hQz); first | trivial)))
    | (apply st_c; (case hc => (simp only [go_sem, *] <;> rfl)); (case hl => (simp only [go_sem, *] <;> rfl)); (case hn => (simp only [go_sem, *] <;> rfl)); (case hp => first | exact c9 | (have hXz := c9; simp only [go_sem, *] at hXz; exact hXz)))
    | (refine Awp.ret ?_; try simp only [go_sem, *])
    | (refine Awp.skip ?_; try simp only [go_sem, *])
    | (apply Awp.cond; (case hc => (simp only [go_sem, *] <;> rfl)); all_goals (intro hg; (try simp only [Bool.not_true, Bool.not_false, reduceCtorEq] at hg)))
    | refine Awp.seq ?_)
    all_goals repeat' (first | exact Lower.int (by first | rfl | (simp only [true_and, Bool.true_and, Bool.false_and, Bool.and_true, Bool.and_false, Bool.true_or, Bool.false_or, reduceIte, Bool.false_eq_true, *]; done) | (simp only [true_and, reduceIte, Bool.false_eq_true, *] <;> rfl) | (simp [true_and]; done) | (simp_all [true_and]; done) | omega))
  rw [hfe] at c9
  refine fn_pure Tryz.F30 (Nat.le_of_ble_eq_true rfl) ?_; unfold Tryz.ac30
  repeat' (first
    | (apply Awp.sreg; (case hn => (simp only [List.length_cons, List.length_nil, Nat.reduceAdd] <;> rfl)))
    | (refine st_nil ?_)
    | (apply st_a; (case hc => rfl); (case he => (simp only [go_sem, *] <;> rfl)); (case hu => (simp only [updL_nil, updL_cons] <;> rfl)); (case hp => first | trivial))
    | (apply st_m; (case hc => rfl); (case hg => (simp only [go_sem, *] <;> rfl)); (case he => (intro hQz; (try simp only [wantB_t, wantB_f, Bool.and_eq_true, Bool.not_eq_true', Bool.not_true, Bool.not_false, and_true, true_and] at hQz); simp only [go_sem, *] <;> rfl)); (case hp => (intro hQz; (try simp only [wantB_t, wantB_f, Bool.and_eq_true, Bool.not_eq_true', Bool.or_eq_false_iff, decide_eq_true_eq, decide_eq_false_iff_not, beq_iff_eq, beq_eq_false_iff_ne, bne_iff_ne, bne_eq_false_iff_eq, Int.not_lt, Int.not_le, Int.ofNat_lt, Int.ofNat_le] at hQz); first | trivial)))
    | (apply st_c; (case hc => (simp only [go_sem, *] <;> rfl)); (case hl => (simp only [go_sem, *] <;> rfl)); (case hn => (simp only [go_sem, *] <;> rfl)); (case hp => first | exact c9 | (have hXz := c9; simp only [go_sem, *] at hXz; exact hXz)))
    | (refine Awp.skip ?_; try simp only [go_sem, *])
    | refine Awp.block ?_
    | (apply Awp.cond; (case hc => (simp only [go_sem, *] <;> rfl)); all_goals (intro hg; (try simp only [Bool.not_true, Bool.not_false, reduceCtorEq] at hg)))
    | refine Awp.seq ?_)
  refine Awp.loop (fun i : Nat => i ≤ l.length ∧ ∀ j, j < i → stayE bs (l.take j) (l.getD j zeroSty) = 0) 60 (fun i => mkS [(0, .sl (bys bs)), (1, .sl (stys l)), (6, .v (.int .i64 i))] []) (fun i => l.length - i) 0 (by simp) ?_ ?_
  · (apply Ghost.mk [] []; (case hdead => rfl); (case hinj => rfl); (case hV => (simp only [go_sem, *]) <;> (repeat' (first | exact View.int (by first | rfl | omega | (simp; done) | (rw [wrap_i64] <;> (try simp only [Int.natCast_add]) <;> omega) | (simp [*]; done))))); (case hB => (simp only [go_sem, *]) <;> (repeat' (first | skip; done))))
  · intro k ⟨hi, hj⟩
    by_cases hlt : k < l.length
    · have hlt' : (k : Int) < l.length := by omega
      have hat := stys_at l k hlt
      have hz : ((l.getD k zeroSty).cells).length = 8 := rfl
      have h3 := stys_one l
      have ht := stys_take l k
      have hle : (k : Int) ≤ l.length := by omega
      have h00 : (0 : Int) ≤ k := by omega
      have c0 := rstay_ok bs (l.take k) (l.getD k zeroSty) (by omega) (by simp; omega) (hs k hlt)
      generalize hE : stayE bs (l.take k) (l.getD k zeroSty) = e at c0
      clear c9
      repeat' (first
    | (apply Awp.sreg; (case hn => (simp only [List.length_cons, List.length_nil, Nat.reduceAdd] <;> rfl)))
    | (apply Awp.sdraw; (case hn => (simp only [List.length_cons, List.length_nil, Nat.reduceAdd] <;> rfl)))
    | (refine st_nil ?_)
    | (apply st_a; (case hc => rfl); (case he => (simp only [go_sem, *] <;> rfl)); (case hu => (simp only [updL_nil, updL_cons] <;> rfl)); (case hp => first | trivial))
    | (apply Awp.reg; (case hn => (simp only [List.length_cons, List.length_nil, Nat.reduceAdd] <;> rfl)))
    | (refine Awp.ret ?_; try simp only [go_sem, *])
    | (refine Awp.skip ?_; try simp only [go_sem, *])
    | refine Awp.block ?_
    | (apply Awp.cond; (case hc => (simp only [go_sem, *] <;> rfl)); all_goals (intro hg; (try simp only [Bool.not_true, Bool.not_false, reduceCtorEq] at hg)))
    | refine Awp.seq ?_
    | (apply sl_a; (case hc => rfl); (case he => (simp only [go_sem, *] <;> rfl)); (case hu => (simp only [updL_nil, updL_cons] <;> rfl)); (case hl => (simp only [List.map_cons, List.map_nil] <;> rfl)); (case hp => first | trivial))
    | (apply sl_c; (case hc => (simp only [go_sem, *] <;> rfl)); (case hl => (simp only [go_sem, *] <;> rfl)); (case hn => (simp only [go_sem, *] <;> rfl)); (case hp => first | exact c0 | (have hXz := c0; simp only [go_sem, *] at hXz; exact hXz)); (case hd => first | exact .inl rfl | exact .inr (.v _) | exact .inr .any | exact .inr .nils); (case hm => first | decide | (simp; done)))
    | (refine sl_nil (And.intro (by first | exact drawOk_of (by decide +kernel) | (simp only [List.map_cons, List.map_nil]; exact drawOk_of (by decide +kernel)) | decide) ?_)))
      · exact Lower.int (ck_stay hL' hfe hlt hj hE (by simpa using hg))
      · refine ⟨k + 1, ⟨by omega, ltSucc hj (by rw [hE]; simpa using hg)⟩, by omega, ?_⟩
        (apply Ghost.mk [] []; (case hdead => rfl); (case hinj => rfl); (case hV => (simp only [go_sem, *]) <;> (repeat' (first | exact View.int (by first | rfl | omega | (simp; done) | (rw [wrap_i64] <;> (try simp only [Int.natCast_add]) <;> omega) | (simp [*]; done))))); (case hB => (simp only [go_sem, *]) <;> (repeat' (first | skip; done))))
    · have hlt' : ¬ (k : Int) < l.length := by omega
      repeat' (first
    | (apply Awp.sreg; (case hn => (simp only [List.length_cons, List.length_nil, Nat.reduceAdd] <;> rfl)))
    | (refine st_nil ?_)
    | (apply st_a; (case hc => rfl); (case he => (simp only [go_sem, *] <;> rfl)); (case hu => (simp only [updL_nil, updL_cons] <;> rfl)); (case hp => first | trivial))
    | (refine Awp.ret ?_; try simp only [go_sem, *])
    | (refine Awp.exit ?_; try simp only [go_sem, *])
    | (apply Awp.cond; (case hc => (simp only [go_sem, *] <;> rfl)); all_goals (intro hg; (try simp only [Bool.not_true, Bool.not_false, reduceCtorEq] at hg)))
    | refine Awp.seq ?_)
      exact Lower.int (ck_end hL' hfe (Nat.le_of_not_lt hlt) hj)
end Go.Proofs
end
section
set_option linter.unusedVariables false
set_option linter.unusedSimpArgs false
namespace Go.Proofs
open Go Go.Ab
set_option maxHeartbeats 4000000
set_option maxRecDepth 100000
set_option linter.unusedSimpArgs false
set_option linter.unusedVariables false
attribute [local irreducible] Awp aops aopsL Go.Ab.Pure PureOwn
theorem ints_snoc (l : List Int) (s : Int) : ints l ++ [[.v (.int .i64 s)]] = ints (l ++ [s]) := by simp [ints]
theorem ints_one1 (s : Int) : [[AV.v (.int .i64 s)]] = ints [s] := rfl
theorem take_snoc {α : Type} (l : List α) (d : α) (i : Nat) (h : i < l.length) : l.take (i + 1) = l.take i ++ [l.getD i d] := by
  rw [List.take_add_one, List.getElem?_eq_getElem h]
  simp [List.getD_eq_getElem?_getD, h]
def endsL (l : List Sty) (fr : Int) : List Int := fr :: (l.filter fun q => decide (fr < q.b)).map (·.b)
theorem endsL_len (l : List Sty) (fr : Int) : (endsL l fr).length ≤ l.length + 1 := by
  have := List.length_filter_le (fun q : Sty => decide (fr < q.b)) l
  simp [endsL]; omega
theorem endsL_step (l : List Sty) (fr : Int) (i : Nat) (h : i < l.length) : endsL (l.take (i + 1)) fr = endsL (l.take i) fr ++ (if decide (fr < (l.getD i zeroSty).b) = true then [(l.getD i zeroSty).b] else []) := by
  rw [take_snoc l zeroSty i h]
  unfold endsL
  rw [List.filter_append, List.map_append, List.cons_append]
  congr 1
  congr 1
  by_cases hp : decide (fr < (l.getD i zeroSty).b) = true
  · rw [if_pos hp, List.filter_cons_of_pos (by exact hp)]; rfl
  · rw [if_neg hp, List.filter_cons_of_neg (by exact hp)]; rfl
def startsZ (l : List Sty) (fr : Int) : List Int := Lib.compact (sortI (endsL l fr))
theorem starts_ok (l : List Sty) (fr : Int) (hl : l.length < 900000) : PureOwn Tryz.prog 43 [.sl (stys l), .v (.int .i64 fr)] (ints (startsZ l fr)) 1 3 := by
  have e0 := ints_one1 fr
  refine fn_own Tryz.F43 (Nat.le_of_ble_eq_true rfl) ?_; unfold Tryz.ac43
  repeat' (first
    | (apply Awp.sreg; (case hn => (simp only [List.length_cons, List.length_nil, Nat.reduceAdd] <;> rfl)))
    | (refine st_nil ?_)
    | (apply st_a; (case hc => rfl); (case he => (simp only [go_sem, *] <;> rfl)); (case hu => (simp only [updL_nil, updL_cons] <;> rfl)); (case hp => first | trivial | (simp; done)))
    | refine Awp.block ?_
    | refine Awp.seq ?_)
  refine Awp.loop (fun i : Nat => i ≤ l.length) 50 (fun i => mkS [(1, .v (.int .i64 fr)), (5, .own 0), (10, .sl (stys l)), (11, .v (.int .i64 l.length)), (12, .v (.int .i64 i))] [(0, .row (ints (endsL (l.take i) fr)) 1 3)]) (fun i => l.length - i) 0 (by omega) ?_ ?_
  · have e1 : endsL (l.take 0) fr = [fr] := rfl
    (apply Ghost.mk [(0, 2)] []; (case hdead => rfl); (case hinj => rfl); (case hV => (simp only [go_sem, *]) <;> (repeat' (first | refine And.intro ?_ ?_ | exact View.int (by first | rfl | omega | (simp; done) | (rw [wrap_i64] <;> (try simp only [Int.natCast_add]) <;> omega) | (simp [*]; done)) | exact .own rfl (by decide)))); (case hB => (simp only [go_sem, *]) <;> (repeat' (first | exact ⟨_, rfl, .rowE (by first | rfl | omega | (simp; done) | (rw [wrap_i64] <;> (try simp only [Int.natCast_add]) <;> omega) | (simp [*]; done))⟩))))
  · intro i hi
    by_cases hlt : i < l.length
    · have hlt' : (i : Int) < l.length := by omega
      have hat := stys_at l i hlt
      have hz : ((l.getD i zeroSty).cells).length = 8 := rfl
      have hst := endsL_step l fr i hlt
      have hln := endsL_len (l.take i) fr
      have htl : (l.take i).length = i := List.length_take_of_le hi
      cases hB : decide (fr < (l.getD i zeroSty).b)
      · rw [hB] at hst
        simp only [Bool.false_eq_true, if_false, List.append_nil] at hst
        repeat' (first
    | (apply Awp.sreg; (case hn => (simp only [List.length_cons, List.length_nil, Nat.reduceAdd] <;> rfl)))
    | (refine st_nil ?_)
    | (apply st_a; (case hc => rfl); (case he => (simp only [go_sem, *] <;> rfl)); (case hu => (simp only [updL_nil, updL_cons] <;> rfl)); (case hp => first | trivial | omega))
    | (apply Awp.reg; (case hn => (simp only [List.length_cons, List.length_nil, Nat.reduceAdd] <;> rfl)))
    | (refine Awp.skip ?_; try simp only [go_sem, *])
    | refine Awp.block ?_
    | (apply Awp.cond; (case hc => (simp only [go_sem, *] <;> rfl)); all_goals (intro hg; (try simp only [Bool.not_true, Bool.not_false, reduceCtorEq] at hg)))
    | refine Awp.seq ?_)
        refine ⟨i + 1, by omega, by omega, ?_⟩
        (apply Ghost.mk [] []; (case hdead => rfl); (case hinj => rfl); (case hV => (simp only [go_sem, *]) <;> (repeat' (first | refine And.intro ?_ ?_ | exact View.int (by first | rfl | omega | (simp; done) | (rw [wrap_i64] <;> (try simp only [Int.natCast_add]) <;> omega) | (simp [*]; done)) | exact .own rfl (by decide)))); (case hB => (simp only [go_sem, *]) <;> (repeat' (first | exact ⟨_, rfl, .rowE (by first | rfl | omega | (simp; done) | (rw [wrap_i64] <;> (try simp only [Int.natCast_add]) <;> omega) | (simp [*]; done))⟩))))
      · rw [hB] at hst
        simp only [if_true] at hst
        repeat' (first
    | (apply Awp.sreg; (case hn => (simp only [List.length_cons, List.length_nil, Nat.reduceAdd] <;> rfl)))
    | (refine st_nil ?_)
    | (apply st_a; (case hc => rfl); (case he => (simp only [go_sem, *] <;> rfl)); (case hu => (simp only [updL_nil, updL_cons] <;> rfl)); (case hp => first | trivial | omega | (simp; done) | (simp; omega)))
    | (apply Awp.reg; (case hn => (simp only [List.length_cons, List.length_nil, Nat.reduceAdd] <;> rfl)))
    | (refine Awp.skip ?_; try simp only [go_sem, *])
    | refine Awp.block ?_
    | (apply Awp.cond; (case hc => (simp only [go_sem, *] <;> rfl)); all_goals (intro hg; (try simp only [Bool.not_true, Bool.not_false, reduceCtorEq] at hg)))
    | refine Awp.seq ?_)
        refine ⟨i + 1, by omega, by omega, ?_⟩
        (apply Ghost.mk [(0, 65)] []; (case hdead => rfl); (case hinj => rfl); (case hV => (simp only [go_sem, *]) <;> (repeat' (first | refine And.intro ?_ ?_ | exact View.int (by first | rfl | exact ints_snoc _ _ | omega | (simp; done) | (rw [wrap_i64] <;> (try simp only [Int.natCast_add]) <;> omega) | (simp [*]; done)) | exact .own rfl (by decide)))); (case hB => (simp only [go_sem, *]) <;> (repeat' (first | exact ⟨_, rfl, .rowE (by first | rfl | exact ints_snoc _ _ | omega | (simp; done) | (rw [wrap_i64] <;> (try simp only [Int.natCast_add]) <;> omega) | (simp [*]; done))⟩))))
    · have hlt' : ¬ (i : Int) < l.length := by omega
      have e1 : l.take i = l := List.take_of_length_le (by omega)
      have hln := endsL_len l fr
      have hs1 := sort_cc (endsL l fr) 0 51 3 (by omega)
      have hs2 : (sortI (endsL l fr)).length < 1000000 := by rw [sortI_len]; omega
      repeat' (first
    | (apply Awp.sreg; (case hn => (simp only [List.length_cons, List.length_nil, Nat.reduceAdd] <;> rfl)))
    | (refine st_nil ?_)
    | (apply st_a; (case hc => rfl); (case he => (simp only [go_sem, *] <;> rfl)); (case hu => (simp only [updL_nil, updL_cons] <;> rfl)); (case hp => first | trivial))
    | (apply st_cc; (case hc => (simp only [go_sem, *] <;> rfl)); (case hcc => exact sort_cc (endsL l fr) _ _ 3 (by omega)); (case hh => (first | (simp only [List.mem_singleton, forall_eq]; first | (simp only [go_sem, *] <;> rfl) | (simp only [go_sem, *]; simp [ints])) | (intro p hp; cases hp; done) | (intro p hp; simp only [List.mem_cons, List.not_mem_nil, or_false] at hp; rcases hp with rfl | rfl | rfl | rfl | rfl | rfl | rfl <;> (simp only [go_sem, *] <;> rfl)) | (intro p hp; simp only [List.mem_cons, List.not_mem_nil, or_false] at hp; rcases hp with rfl | rfl | rfl | rfl <;> (simp only [go_sem, *] <;> rfl)))); (case hu => (first | (simp; done) | decide)); (case hm => (first | decide | (simp; done))); (case hw => (simp only [updL_nil, updL_cons] <;> rfl)))
    | (apply st_cc; (case hc => (simp only [go_sem, *] <;> rfl)); (case hcc => exact compact_cc (sortI (endsL l fr)) _ _ 3 (by decide) hs2); (case hh => (first | (simp only [List.mem_singleton, forall_eq]; first | (simp only [go_sem, *] <;> rfl) | (simp only [go_sem, *]; simp [ints])) | (intro p hp; cases hp; done) | (intro p hp; simp only [List.mem_cons, List.not_mem_nil, or_false] at hp; rcases hp with rfl | rfl | rfl | rfl | rfl | rfl | rfl <;> (simp only [go_sem, *] <;> rfl)) | (intro p hp; simp only [List.mem_cons, List.not_mem_nil, or_false] at hp; rcases hp with rfl | rfl | rfl | rfl <;> (simp only [go_sem, *] <;> rfl)))); (case hu => (first | (simp; done) | decide)); (case hm => (first | decide | (simp; done))); (case hw => (simp only [updL_nil, updL_cons] <;> rfl)))
    | (refine Awp.ret ?_; try simp only [go_sem, *])
    | (refine Awp.exit ?_; try simp only [go_sem, *])
    | (apply Awp.cond; (case hc => (simp only [go_sem, *] <;> rfl)); all_goals (intro hg; (try simp only [Bool.not_true, Bool.not_false, reduceCtorEq] at hg)))
    | refine Awp.seq ?_)
      exact ⟨54, rfl, rfl⟩
def Sty.at_ (x : Sty) (X Y : Int) : Sty := ⟨x.item, x.bay, X, Y, x.len, x.wid, x.a, x.b⟩
end Go.Proofs
end
section
set_option linter.unusedVariables false
set_option linter.unusedSimpArgs false
namespace Go.Proofs
open Go Go.Ab
set_option linter.unusedSimpArgs false
set_option linter.unusedVariables false
theorem fs_hit {α β : Type} {f : α → Option β} {l : List α} {d : α} {i : Nat} {b : β} (hi : i < l.length) (hj : ∀ j, j < i → f (l.getD j d) = none) (h : f (l.getD i d) = some b) : l.findSome? f = some b := by
  have h1 : l.getD i d = l[i] := by simp [List.getD_eq_getElem?_getD, hi]
  have e : l = l.take i ++ l[i] :: l.drop (i + 1) := by rw [List.getElem_cons_drop, List.take_append_drop]
  have hn : (l.take i).findSome? f = none := by
    rw [List.findSome?_eq_none_iff]
    intro y hy
    obtain ⟨j, hjl, rfl⟩ := List.getElem_of_mem hy
    have hji : j < i := by simp at hjl; omega
    have := hj j hji
    have hjll : j < l.length := by omega
    have h2 : l.getD j d = (l.take i)[j] := by simp [List.getD_eq_getElem?_getD, hjll]
    rwa [h2] at this
  rw [h1] at h
  rw [e, List.findSome?_append, hn, Option.none_or, List.findSome?_cons, h]
theorem fs_no {α β : Type} {f : α → Option β} {l : List α} {d : α} {i : Nat} (hi : l.length ≤ i) (hj : ∀ j, j < i → f (l.getD j d) = none) : l.findSome? f = none := by
  rw [List.findSome?_eq_none_iff]
  intro y hy
  obtain ⟨j, hjl, rfl⟩ := List.getElem_of_mem hy
  have := hj j (by omega)
  rwa [List.getD_eq_getElem?_getD, List.getElem?_eq_getElem hjl, Option.getD_some] at this
theorem firstE_zero (f : Nat → Int) (n : Nat) : firstE f n = 0 ↔ ∀ i, i < n → f i = 0 := by
  constructor
  · intro h i hi
    unfold firstE at h
    cases hf : (List.range n).find? (fun i => f i != 0) with
    | none =>
      rw [List.find?_eq_none] at hf
      have := hf i (List.mem_range.2 hi)
      simpa using this
    | some j =>
      rw [hf] at h
      have := List.find?_some hf
      simp only [bne_iff_ne, ne_eq] at this
      exact absurd h this
  · intro h
    exact firstE_end (Nat.le_refl n) fun j hj => h j hj
def good (bs : List By) (x : Sty) : Bool := idB x.item && (findB bs x.bay).2 && !rngB x && !offB (findB bs x.bay).1 x
theorem stayE_zero (bs : List By) (l : List Sty) (x : Sty) : stayE bs l x = 0 ↔ good bs x = true ∧ ∀ q ∈ l, overB x q = false := by
  unfold stayE good
  cases idB x.item <;> cases (findB bs x.bay).2 <;> cases rngB x <;> cases offB (findB bs x.bay).1 x <;> simp
theorem cutB_symm (a la b lb : Int) : cutB a la b lb = cutB b lb a la := by unfold cutB; rw [Bool.and_comm]
theorem overB_symm (p q : Sty) : overB p q = overB q p := by
  unfold overB
  rw [cutB_symm p.x, cutB_symm p.y, Bool.beq_comm]
  cases (q.bay.toList == p.bay.toList) <;> cases decide (p.a < q.b) <;> cases decide (q.a < p.b) <;> rfl
def apart (p q : Sty) : Prop := overB p q = false
def baysOk (bs : List By) : Prop := bs.length ≤ 8 ∧ ∀ i, i < bs.length → bayAt bs i = 0
theorem checkE_iff (bs : List By) (l : List Sty) : checkE bs l = 0 ↔ baysOk bs ∧ l.length ≤ 128 ∧ (∀ x ∈ l, good bs x = true) ∧ l.Pairwise apart := by
  have hst : firstE (fun i => stayE bs (l.take i) (l.getD i zeroSty)) l.length = 0 ↔ (∀ x ∈ l, good bs x = true) ∧ l.Pairwise apart := by
    rw [firstE_zero]
    have hget : ∀ i (h : i < l.length), l.getD i zeroSty = l[i] := fun i h => by simp [List.getD_eq_getElem?_getD, h]
    constructor
    · intro h
      refine ⟨fun x hx => ?_, List.pairwise_iff_getElem.2 fun i j hi hj hij => ?_⟩
      · obtain ⟨i, hi, rfl⟩ := List.getElem_of_mem hx
        have := ((stayE_zero _ _ _).1 (h i hi)).1
        rwa [hget i hi] at this
      · have := ((stayE_zero _ _ _).1 (h j hj)).2 l[i] (List.mem_take_iff_getElem.2 ⟨i, by omega, rfl⟩)
        rw [hget j hj, overB_symm] at this
        exact this
    · rintro ⟨h1, h2⟩ i hi
      rw [stayE_zero, hget i hi]
      refine ⟨h1 _ (List.getElem_mem hi), fun q hq => ?_⟩
      obtain ⟨j, hj, rfl⟩ := List.mem_take_iff_getElem.1 hq
      have := List.pairwise_iff_getElem.1 h2 j i (by omega) hi (by omega)
      rw [overB_symm]
      exact this
  unfold checkE
  by_cases h1 : bs.length ≤ 8 ∧ l.length ≤ 128
  · rw [if_neg (by simp; omega)]
    by_cases h2 : firstE (bayAt bs) bs.length = 0
    · rw [if_neg (by rw [h2]; simp), hst]
      exact ⟨fun h => ⟨⟨h1.1, (firstE_zero _ _).1 h2⟩, h1.2, h⟩, fun h => h.2.2⟩
    · rw [if_pos (by simpa using h2)]
      exact ⟨fun h => absurd h h2, fun h => absurd ((firstE_zero _ _).2 h.1.2) h2⟩
  · rw [if_pos (by simp; omega)]
    exact ⟨fun h => by simp at h, fun h => absurd ⟨h.1.1, h.2.1⟩ h1⟩
theorem exists_floor (n : Int) : ∀ (L : List Int), (∃ a ∈ L, a ≤ n) → ∃ a ∈ L, a ≤ n ∧ ∀ b ∈ L, b ≤ n → b ≤ a
  | [], h => by obtain ⟨a, ha, _⟩ := h; simp at ha
  | c :: L, h => by
    by_cases hL : ∃ a ∈ L, a ≤ n
    · obtain ⟨a, ha, hn, hm⟩ := exists_floor n L hL
      by_cases hc : c ≤ n ∧ a ≤ c
      · exact ⟨c, by simp, hc.1, fun b hb hbn => by
          rcases List.mem_cons.1 hb with rfl | hb
          · exact Int.le_refl _
          · have := hm b hb hbn; omega⟩
      · exact ⟨a, by simp [ha], hn, fun b hb hbn => by
          rcases List.mem_cons.1 hb with rfl | hb
          · omega
          · exact hm b hb hbn⟩
    · obtain ⟨a, ha, hn⟩ := h
      rcases List.mem_cons.1 ha with rfl | ha
      · exact ⟨a, by simp, hn, fun b hb hbn => by
          rcases List.mem_cons.1 hb with rfl | hb
          · exact Int.le_refl _
          · exact absurd ⟨b, hb, hbn⟩ hL⟩
      · exact absurd ⟨a, ha, hn⟩ hL
theorem mem_cs (L : List Int) (Y : Int) : Y ∈ Lib.compact (sortI L) ↔ Y ∈ L := by
  show Y ∈ Lib.compact (sortZ L) ↔ Y ∈ L
  exact ((compact_sorted (sortZ L) (sortZ_asc _)).2 Y).trans (mem_sortZ _ _)
theorem scanE_some {P : Int → Int → Bool} {lw c : List Int} {o : Int × Int} (h : scanE P lw c = some o) : P o.1 o.2 = true := by
  unfold scanE at h
  obtain ⟨y, hy, hf⟩ := List.exists_of_findSome?_eq_some h
  cases hg : c.find? (fun x => P x y) with
  | none => rw [hg] at hf; simp at hf
  | some z =>
    rw [hg] at hf
    simp only [Option.map_some, Option.some.injEq] at hf
    subst hf
    exact List.find?_some (p := fun x => P x y) hg
theorem scanE_is {P : Int → Int → Bool} {lw c : List Int} {X Y : Int} (hX : X ∈ c) (hY : Y ∈ lw) (h : P X Y = true) : ∃ o, scanE P lw c = some o := by
  unfold scanE
  have : (lw.findSome? fun y => (c.find? fun x => P x y).map fun x => (x, y)).isSome = true := by
    rw [List.findSome?_isSome_iff]
    refine ⟨Y, hY, ?_⟩
    rw [Option.isSome_map, List.find?_isSome]
    exact ⟨X, hX, h⟩
  exact Option.isSome_iff_exists.1 this
theorem bay_wid {bs : List By} (h : baysOk bs) {nm : ByteArray} (hf : (findB bs nm).2 = true) : 1 ≤ (findB bs nm).1.len ∧ (findB bs nm).1.len ≤ 524288 ∧ 1 ≤ (findB bs nm).1.wid ∧ (findB bs nm).1.wid ≤ 524288 := by
  unfold findB at hf ⊢
  split at hf
  · simp at hf
  · rename_i hi
    rw [if_neg hi]
    dsimp only
    unfold idxF at hi ⊢
    split at hi
    · rename_i hlt
      rw [if_pos hlt]
      have hb := h.2 _ hlt
      rw [Int.toNat_natCast]
      generalize bs.findIdx _ = i at *
      unfold bayAt sideB at hb
      generalize bs.getD i zeroBy = q at *
      split at hb
      · simp at hb
      · split at hb
        · simp at hb
        · rename_i h2
          simp only [Bool.or_eq_true, Bool.not_eq_true', Bool.and_eq_false_iff, decide_eq_false_iff_not, not_or, Classical.not_not] at h2
          omega
    · simp at hi
theorem good_box {bs : List By} (hb : baysOk bs) {x : Sty} (h : good bs x = true) : 1 ≤ x.len ∧ 1 ≤ x.wid ∧ 0 ≤ x.x ∧ 0 ≤ x.y ∧ x.x + x.len ≤ (findB bs x.bay).1.len ∧ x.y + x.wid ≤ (findB bs x.bay).1.wid ∧ x.x + x.len ≤ 524288 ∧ x.y + x.wid ≤ 524288 ∧ 0 ≤ x.a ∧ x.a < x.b ∧ x.b ≤ 1048576 ∧ (findB bs x.bay).2 = true ∧ idB x.item = true := by
  unfold good at h
  simp only [Bool.and_eq_true, Bool.not_eq_true'] at h
  obtain ⟨⟨⟨h1, h2⟩, h3⟩, h4⟩ := h
  have hw := bay_wid hb h2
  unfold rngB sideB at h3
  unfold offB at h4
  generalize (findB bs x.bay).1 = q at *
  simp only [Bool.or_eq_false_iff, Bool.not_eq_false', Bool.and_eq_true, decide_eq_true_eq, decide_eq_false_iff_not] at h3 h4
  have e1 : IntKind.i64.wrap (q.len - x.len) = q.len - x.len := wrap_i64 (by omega) (by omega)
  have e2 : IntKind.i64.wrap (q.wid - x.wid) = q.wid - x.wid := wrap_i64 (by omega) (by omega)
  rw [e1, e2] at h4
  refine ⟨by omega, by omega, by omega, by omega, by omega, by omega, by omega, by omega, by omega, by omega, by omega, h2, h1⟩
theorem good_iff {bs : List By} (hb : baysOk bs) {x : Sty} : good bs x = true ↔ idB x.item = true ∧ (findB bs x.bay).2 = true ∧ 1 ≤ x.len ∧ 1 ≤ x.wid ∧ x.len ≤ 524288 ∧ x.wid ≤ 524288 ∧ 0 ≤ x.x ∧ 0 ≤ x.y ∧ x.x + x.len ≤ (findB bs x.bay).1.len ∧ x.y + x.wid ≤ (findB bs x.bay).1.wid ∧ 0 ≤ x.a ∧ x.a < x.b ∧ x.b ≤ 1048576 := by
  constructor
  · intro h
    obtain ⟨a1, a2, a3, a4, a5, a6, a7, a8, a9, a10, a11, a12, a13⟩ := good_box hb h
    exact ⟨a13, a12, a1, a2, by omega, by omega, a3, a4, a5, a6, a9, a10, a11⟩
  · rintro ⟨h1, h2, h3⟩
    have hw := bay_wid hb h2
    unfold good
    rw [h1, h2]
    unfold rngB sideB offB
    generalize (findB bs x.bay).1 = q at *
    have e1 : IntKind.i64.wrap (q.len - x.len) = q.len - x.len := wrap_i64 (by omega) (by omega)
    have e2 : IntKind.i64.wrap (q.wid - x.wid) = q.wid - x.wid := wrap_i64 (by omega) (by omega)
    rw [e1, e2]
    simp only [Bool.and_eq_true, Bool.or_eq_false_iff, Bool.not_eq_true', Bool.not_eq_false', decide_eq_true_eq, decide_eq_false_iff_not, true_and]
    omega
theorem cutB_plain {a la b lb : Int} (h1 : 0 ≤ a) (h2 : a + la ≤ 1048576) (h3 : 0 ≤ la) (h4 : 0 ≤ b) (h5 : b + lb ≤ 1048576) (h6 : 0 ≤ lb) : cutB a la b lb = true ↔ a < b + lb ∧ b < a + la := by
  unfold cutB
  rw [wrap_i64 (n := b + lb) (by omega) (by omega), wrap_i64 (n := a + la) (by omega) (by omega)]
  simp only [Bool.and_eq_true, decide_eq_true_eq]
theorem over_iff {bs : List By} (hb : baysOk bs) {p q : Sty} (hp : good bs p = true) (hq : good bs q = true) : overB p q = true ↔ p.bay.toList = q.bay.toList ∧ p.a < q.b ∧ q.a < p.b ∧ p.x < q.x + q.len ∧ q.x < p.x + p.len ∧ p.y < q.y + q.wid ∧ q.y < p.y + p.wid := by
  have g1 := good_box hb hp
  have g2 := good_box hb hq
  unfold overB
  simp only [Bool.and_eq_true, beq_iff_eq, decide_eq_true_eq]
  rw [cutB_plain (by omega) (by omega) (by omega) (by omega) (by omega) (by omega), cutB_plain (by omega) (by omega) (by omega) (by omega) (by omega) (by omega)]
  constructor
  · rintro ⟨⟨⟨⟨h1, h2⟩, h3⟩, h4, h5⟩, h6, h7⟩; exact ⟨h1, h2, h3, h4, h5, h6, h7⟩
  · rintro ⟨h1, h2, h3, h4, h5, h6, h7⟩; exact ⟨⟨⟨⟨h1, h2⟩, h3⟩, h4, h5⟩, h6, h7⟩
end Go.Proofs
end
section
set_option linter.unusedVariables false
set_option linter.unusedSimpArgs false
namespace Go.Proofs
open Go Go.Ab
set_option linter.unusedSimpArgs false
set_option linter.unusedVariables false
def dupB (l : List Sty) (i : Nat) : Bool := (l.take i).any fun x => x.item.toList == (l.getD i zeroSty).item.toList
def clashB (b x : Sty) : Bool := (x.bay.toList == b.bay.toList) && decide (b.a < x.b) && decide (x.b < b.b)
def dockE (bs : List By) (l : List Sty) : Int :=
  if checkE bs l != 0 then checkE bs l else if (List.range l.length).any (dupB l) then 7 else if l.any (fun b => l.any (clashB b)) then 14 else 0
theorem dockE_iff (bs : List By) (l : List Sty) : dockE bs l = 0 ↔ checkE bs l = 0 ∧ l.Pairwise (fun p q => p.item.toList ≠ q.item.toList) ∧ ∀ b ∈ l, ∀ x ∈ l, clashB b x = false := by
  have hp : (List.range l.length).any (dupB l) = false ↔ l.Pairwise (fun p q => p.item.toList ≠ q.item.toList) := by
    rw [List.any_eq_false, List.pairwise_iff_getElem]
    have hget : ∀ i (h : i < l.length), l.getD i zeroSty = l[i] := fun i h => by simp [List.getD_eq_getElem?_getD, h]
    constructor
    · intro h i j hi hj hij he
      refine h j (List.mem_range.2 hj) ?_
      unfold dupB
      rw [List.any_eq_true]
      refine ⟨l[i], List.mem_take_iff_getElem.2 ⟨i, by omega, rfl⟩, ?_⟩
      rw [hget j hj]
      simpa using he
    · intro h j hj hd
      have hj := List.mem_range.1 hj
      unfold dupB at hd
      rw [List.any_eq_true] at hd
      obtain ⟨x, hx, he⟩ := hd
      obtain ⟨i, hi, rfl⟩ := List.mem_take_iff_getElem.1 hx
      rw [hget j hj] at he
      exact h i j (by omega) hj (by omega) (by simpa using he)
  have hc : l.any (fun b => l.any (clashB b)) = false ↔ ∀ b ∈ l, ∀ x ∈ l, clashB b x = false := by
    simp only [List.any_eq_false, Bool.not_eq_true]
  unfold dockE
  by_cases h1 : checkE bs l = 0
  · rw [if_neg (by rw [h1]; simp)]
    cases h2 : (List.range l.length).any (dupB l)
    · rw [if_neg (by simp)]
      cases h3 : l.any (fun b => l.any (clashB b))
      · rw [if_neg (by simp)]
        exact ⟨fun _ => ⟨h1, hp.1 h2, hc.1 h3⟩, fun _ => rfl⟩
      · rw [if_pos rfl]
        refine ⟨fun h => absurd h (by decide), fun h => ?_⟩
        rw [hc.2 h.2.2] at h3; cases h3
    · rw [if_pos rfl]
      refine ⟨fun h => absurd h (by decide), fun h => ?_⟩
      rw [hp.2 h.2.1] at h2; cases h2
  · rw [if_pos (by simpa using h1)]
    exact ⟨fun h => absurd h h1, fun h => absurd h.1 h1⟩
/-- No berth is in the way of another one. -/
def Free (l : List Sty) (x : Sty) : Prop :=
  ∀ b ∈ l, b.bay.toList = x.bay.toList → b.a < x.b → x.a < b.b → b.b = x.b ∧ ¬ (x.x < b.x + b.len ∧ b.x < x.x + x.len ∧ x.y < b.y + b.wid ∧ b.y < x.y + x.wid)
theorem dock_add {bs : List By} {l : List Sty} {x : Sty} (h : dockE bs l = 0) (hn : ∀ b ∈ l, b.item.toList ≠ x.item.toList) (hl : l.length < 128) : dockE bs (l ++ [x]) = 0 ↔ good bs x = true ∧ Free l x := by
  obtain ⟨h1, h2, h3⟩ := (dockE_iff bs l).1 h
  obtain ⟨hb, hl2, hg, hp⟩ := (checkE_iff bs l).1 h1
  rw [dockE_iff, checkE_iff]
  constructor
  · rintro ⟨⟨_, _, k1, k2⟩, k3, k4⟩
    have gx := k1 x (by simp)
    refine ⟨gx, fun b hbl e1 e2 e3 => ⟨?_, fun ho => ?_⟩⟩
    · have c1 := k4 x (by simp) b (by simp [hbl])
      have c2 := k4 b (by simp [hbl]) x (by simp)
      unfold clashB at c1 c2
      rw [e1] at c1 c2
      simp only [beq_self_eq_true, Bool.true_and, Bool.and_eq_false_iff, decide_eq_false_iff_not] at c1 c2
      omega
    · have ha := (List.pairwise_append.1 k2).2.2 b hbl x (by simp)
      unfold apart at ha
      rw [overB_symm] at ha
      have := (over_iff hb gx (hg b hbl)).2 ⟨e1.symm, e3, e2, ho.1, ho.2.1, ho.2.2.1, ho.2.2.2⟩
      rw [ha] at this; cases this
  · rintro ⟨gx, hf⟩
    have bx := good_box hb gx
    refine ⟨⟨hb, by simp; omega, fun y hy => ?_, ?_⟩, ?_, fun b hb1 y hy => ?_⟩
    · rcases List.mem_append.1 hy with hy | hy
      · exact hg y hy
      · rw [List.mem_singleton.1 hy]; exact gx
    · rw [List.pairwise_append]
      refine ⟨hp, by simp, fun a ha b hb1 => ?_⟩
      rw [List.mem_singleton.1 hb1]
      unfold apart
      cases ho : overB a x
      · rfl
      · rw [overB_symm] at ho
        have k := (over_iff hb gx (hg a ha)).1 ho
        exact absurd ⟨k.2.2.2.1, k.2.2.2.2.1, k.2.2.2.2.2.1, k.2.2.2.2.2.2⟩ (hf a ha k.1.symm k.2.2.1 k.2.1).2
    · rw [List.pairwise_append]
      exact ⟨h2, by simp, fun a ha b hb1 => by rw [List.mem_singleton.1 hb1]; exact hn a ha⟩
    · have box : ∀ z, z ∈ l → z.a < z.b := fun z hz => by have := good_box hb (hg z hz); omega
      rcases List.mem_append.1 hb1 with hb1 | hb1
      · rcases List.mem_append.1 hy with hy | hy
        · exact h3 b hb1 y hy
        · rw [List.mem_singleton.1 hy]
          cases hc : clashB b x
          · rfl
          · unfold clashB at hc
            simp only [Bool.and_eq_true, beq_iff_eq, decide_eq_true_eq] at hc
            have := (hf b hb1 hc.1.1.symm hc.1.2 (by omega)).1
            omega
      · rw [List.mem_singleton.1 hb1]
        rcases List.mem_append.1 hy with hy | hy
        · cases hc : clashB x y
          · rfl
          · unfold clashB at hc
            simp only [Bool.and_eq_true, beq_iff_eq, decide_eq_true_eq] at hc
            have := box y hy
            have := (hf y hy hc.1.1 (by omega) hc.1.2).1
            omega
        · rw [List.mem_singleton.1 hy]
          unfold clashB
          simp only [Bool.and_eq_false_iff, decide_eq_false_iff_not]
          omega
theorem findB_self {bs : List By} (h : baysOk bs) {i : Nat} (hi : i < bs.length) : findB bs (bs.getD i zeroBy).nm = (bs.getD i zeroBy, true) := by
  have hb := h.2 i hi
  have hget : bs.getD i zeroBy = bs[i] := by simp [List.getD_eq_getElem?_getD, hi]
  have h2 : (findB (bs.take i) (bs.getD i zeroBy).nm).2 = false := by
    cases hf : (findB (bs.take i) (bs.getD i zeroBy).nm).2
    · rfl
    · unfold bayAt at hb
      rw [hf] at hb
      split at hb
      · exact absurd hb (by decide)
      · split at hb
        · exact absurd hb (by decide)
        · exact absurd hb (by decide)
  have hj : ∀ j, j < i → (fun q : By => q.nm.toList == (bs.getD i zeroBy).nm.toList) (bs.getD j zeroBy) = false := by
    intro j hji
    cases he : (fun q : By => q.nm.toList == (bs.getD i zeroBy).nm.toList) (bs.getD j zeroBy)
    · rfl
    · exfalso
      have hany : (bs.take i).any (fun q : By => q.nm.toList == (bs.getD i zeroBy).nm.toList) = true := by
        rw [List.any_eq_true]
        refine ⟨bs[j], List.mem_take_iff_getElem.2 ⟨j, by omega, rfl⟩, ?_⟩
        have e : bs.getD j zeroBy = bs[j] := by simp [List.getD_eq_getElem?_getD, show j < bs.length by omega]
        rw [e] at he
        exact he
      rw [← idxF_any] at hany
      unfold findB at h2
      split at h2
      · rename_i hlt
        simp only [decide_eq_true_eq] at hlt hany
        omega
      · exact absurd h2 (by simp)
  have e := idxF_in (p := fun q : By => q.nm.toList == (bs.getD i zeroBy).nm.toList) (d := zeroBy) hi (by simp) hj
  unfold findB
  rw [e, if_neg (by simp), Int.toNat_natCast]
def nearD (d : By) (x b : Sty) : Bool := (b.bay.toList == d.nm.toList) && decide (x.a < b.b) && decide (b.a < x.b)
def meetB (a b : Sty) : Bool := decide (a.a < b.b) && decide (b.a < a.b) && decide (a.x < IntKind.i64.wrap (b.x + b.len)) && decide (b.x < IntKind.i64.wrap (a.x + a.len)) && decide (a.y < IntKind.i64.wrap (b.y + b.wid)) && decide (b.y < IntKind.i64.wrap (a.y + a.wid))
def besideL (d : By) (l : List Sty) (x : Sty) : List Sty := l.filter (nearD d x)
def xsD (d : By) (l : List Sty) (x : Sty) : List Int := 0 :: (besideL d l x).map fun b => IntKind.i64.wrap (b.x + b.len)
def ysD (d : By) (l : List Sty) (x : Sty) : List Int := 0 :: (besideL d l x).map fun b => IntKind.i64.wrap (b.y + b.wid)
def okP (d : By) (near : List Sty) (x : Sty) (X Y : Int) : Bool := !(near.any (meetB (x.at_ X Y))) && decide (IntKind.i64.wrap (X + x.len) ≤ d.len) && decide (IntKind.i64.wrap (Y + x.wid) ≤ d.wid)
def endBad (d : By) (x b : Sty) : Bool := nearD d x b && (b.b != x.b)
def placeD (d : By) (l : List Sty) (x : Sty) : Option Sty :=
  if l.any (endBad d x) then none else (scanE (okP d (besideL d l x) x) (sortI (ysD d l x)) (sortI (xsD d l x))).map fun o => x.at_ o.1 o.2
def inDock (x b : Sty) : Bool := b.bay.toList == x.bay.toList
def xsA (l : List Sty) (x : Sty) : List Int := 0 :: (l.filter (inDock x)).map fun b => IntKind.i64.wrap (b.x + b.len)
def ysA (l : List Sty) (x : Sty) : List Int := 0 :: (l.filter (inDock x)).map fun b => IntKind.i64.wrap (b.y + b.wid)
def atOk (bs : List By) (l : List Sty) (x : Sty) (X Y : Int) : Bool := dockE bs (l ++ [x.at_ X Y]) == 0
def atD (bs : List By) (l : List Sty) (x : Sty) : Option Sty :=
  (scanE (atOk bs l x) (Lib.compact (sortI (ysA l x))) (Lib.compact (sortI (xsA l x)))).map fun o => x.at_ o.1 o.2
theorem find_asc {p : Int → Bool} : ∀ {l : List Int} {x : Int}, l.Pairwise (· ≤ ·) → l.find? p = some x → p x = true ∧ x ∈ l ∧ ∀ y ∈ l, p y = true → x ≤ y
  | [], _, _, h => by simp at h
  | a :: l, x, hp, h => by
    rw [List.pairwise_cons] at hp
    rw [List.find?_cons] at h
    cases ha : p a with
    | true =>
      rw [ha] at h
      simp only [Option.some.injEq] at h
      subst h
      exact ⟨ha, by simp, fun y hy _ => by
        rcases List.mem_cons.1 hy with rfl | hy
        · exact Int.le_refl _
        · exact hp.1 y hy⟩
    | false =>
      rw [ha] at h
      obtain ⟨h1, h2, h3⟩ := find_asc hp.2 h
      exact ⟨h1, by simp [h2], fun y hy hpy => by
        rcases List.mem_cons.1 hy with rfl | hy
        · rw [ha] at hpy; cases hpy
        · exact h3 y hy hpy⟩
theorem fs_asc {β : Type} {f : Int → Option β} : ∀ {l : List Int} {o : β}, l.Pairwise (· ≤ ·) → l.findSome? f = some o → ∃ x ∈ l, f x = some o ∧ ∀ y ∈ l, (f y).isSome = true → x ≤ y
  | [], _, _, h => by simp at h
  | a :: l, o, hp, h => by
    rw [List.pairwise_cons] at hp
    rw [List.findSome?_cons] at h
    cases ha : f a with
    | some b =>
      rw [ha] at h
      simp only [Option.some.injEq] at h
      subst h
      exact ⟨a, by simp, ha, fun y hy _ => by
        rcases List.mem_cons.1 hy with rfl | hy
        · exact Int.le_refl _
        · exact hp.1 y hy⟩
    | none =>
      rw [ha] at h
      obtain ⟨x, h1, h2, h3⟩ := fs_asc hp.2 h
      exact ⟨x, by simp [h1], h2, fun y hy hpy => by
        rcases List.mem_cons.1 hy with rfl | hy
        · rw [ha] at hpy; simp at hpy
        · exact h3 y hy hpy⟩
theorem scan_first {P : Int → Int → Bool} {lw c : List Int} {o : Int × Int} (hl : lw.Pairwise (· ≤ ·)) (hc : c.Pairwise (· ≤ ·)) (h : scanE P lw c = some o) :
    P o.1 o.2 = true ∧ o.1 ∈ c ∧ o.2 ∈ lw ∧ ∀ X ∈ c, ∀ Y ∈ lw, P X Y = true → o.2 ≤ Y ∧ (Y = o.2 → o.1 ≤ X) := by
  unfold scanE at h
  obtain ⟨y, hy, hf, hm⟩ := fs_asc hl h
  cases hg : c.find? (fun x => P x y) with
  | none => rw [hg] at hf; simp at hf
  | some z =>
    rw [hg] at hf
    simp only [Option.map_some, Option.some.injEq] at hf
    subst hf
    obtain ⟨h1, h2, h3⟩ := find_asc hc hg
    refine ⟨h1, h2, hy, fun X hX Y hY hP => ⟨hm Y hY ?_, fun e => ?_⟩⟩
    · rw [Option.isSome_map, List.find?_isSome]
      exact ⟨X, hX, hP⟩
    · have e : Y = y := e
      subst e
      exact h3 X hX hP
theorem scan_eq {P Q : Int → Int → Bool} {ya xa yb xb : List Int} (h1 : ya.Pairwise (· ≤ ·)) (h2 : xa.Pairwise (· ≤ ·)) (h3 : yb.Pairwise (· ≤ ·)) (h4 : xb.Pairwise (· ≤ ·))
    (hy : ∀ y ∈ ya, y ∈ yb) (hx : ∀ x ∈ xa, x ∈ xb) (hPQ : ∀ x ∈ xb, ∀ y ∈ yb, P x y = Q x y)
    (red : ∀ X ∈ xb, ∀ Y ∈ yb, Q X Y = true → ∃ X' ∈ xa, ∃ Y' ∈ ya, X' ≤ X ∧ Y' ≤ Y ∧ Q X' Y' = true) : scanE P ya xa = scanE Q yb xb := by
  cases hB : scanE Q yb xb with
  | none =>
    cases hA : scanE P ya xa with
    | none => rfl
    | some o =>
      exfalso
      obtain ⟨a1, a2, a3, _⟩ := scan_first h1 h2 hA
      rw [hPQ _ (hx _ a2) _ (hy _ a3)] at a1
      obtain ⟨o', ho'⟩ := scanE_is (hx _ a2) (hy _ a3) a1
      rw [hB] at ho'; cases ho'
  | some o' =>
    obtain ⟨b1, b2, b3, b4⟩ := scan_first h3 h4 hB
    obtain ⟨X', hX', Y', hY', hXX, hYY, hQ⟩ := red _ b2 _ b3 b1
    have hP : P X' Y' = true := by rw [hPQ _ (hx _ hX') _ (hy _ hY')]; exact hQ
    obtain ⟨o, hA⟩ := scanE_is hX' hY' hP
    rw [hA]
    obtain ⟨a1, a2, a3, a4⟩ := scan_first h1 h2 hA
    have hQo : Q o.1 o.2 = true := by rw [← hPQ _ (hx _ a2) _ (hy _ a3)]; exact a1
    have k1 := a4 X' hX' Y' hY' hP
    have k2 := b4 _ (hx _ a2) _ (hy _ a3) hQo
    have e2 : o.2 = o'.2 := by omega
    have k3 := k2.2 e2
    have k4 := k1.2 (by omega)
    have e1 : o.1 = o'.1 := by omega
    obtain ⟨p, q⟩ := o
    obtain ⟨p', q'⟩ := o'
    simp only at e1 e2
    rw [e1, e2]
theorem sortI_asc (l : List Int) : (sortI l).Pairwise (· ≤ ·) := sortZ_asc l
theorem mem_sortI (l : List Int) (x : Int) : x ∈ sortI l ↔ x ∈ l := mem_sortZ l x
theorem cs_asc (l : List Int) : (Lib.compact (sortI l)).Pairwise (· < ·) := (compact_sorted (sortZ l) (sortZ_asc _)).1
theorem cs_asc2 (l : List Int) : (Lib.compact (sortI l)).Pairwise (· ≤ ·) := (cs_asc l).imp fun h => Int.le_of_lt h
/-- What a berth that is looked for keeps. -/
structure Asked (bs : List By) (l : List Sty) (d : By) (x : Sty) : Prop where
  ok : dockE bs l = 0
  room : l.length < 128
  new : ∀ b ∈ l, b.item.toList ≠ x.item.toList
  id : idB x.item = true
  dock : findB bs d.nm = (d, true)
  bay : x.bay = d.nm
  len : 1 ≤ x.len ∧ x.len ≤ 524288
  wid : 1 ≤ x.wid ∧ x.wid ≤ 524288
  tim : 0 ≤ x.a ∧ x.a < x.b ∧ x.b ≤ 1048576
section
variable {bs : List By} {l : List Sty} {d : By} {x : Sty}
theorem Asked.bays (h : Asked bs l d x) : baysOk bs := ((checkE_iff bs l).1 ((dockE_iff bs l).1 h.ok).1).1
theorem Asked.good (h : Asked bs l d x) {b : Sty} (hb : b ∈ l) : good bs b = true := ((checkE_iff bs l).1 ((dockE_iff bs l).1 h.ok).1).2.2.1 b hb
theorem Asked.at_good (h : Asked bs l d x) (X Y : Int) : Go.Proofs.good bs (x.at_ X Y) = true ↔ 0 ≤ X ∧ 0 ≤ Y ∧ X + x.len ≤ d.len ∧ Y + x.wid ≤ d.wid := by
  rw [good_iff h.bays]
  simp only [Sty.at_]
  rw [h.bay, h.dock]
  have := h.len; have := h.wid; have := h.tim
  refine ⟨fun hh => ⟨hh.2.2.2.2.2.2.1, hh.2.2.2.2.2.2.2.1, hh.2.2.2.2.2.2.2.2.1, hh.2.2.2.2.2.2.2.2.2.1⟩, fun hh => ⟨h.id, rfl, ?_⟩⟩
  dsimp only
  omega
def Fits (l : List Sty) (d : By) (x : Sty) (X Y : Int) : Prop := 0 ≤ X ∧ 0 ≤ Y ∧ X + x.len ≤ d.len ∧ Y + x.wid ≤ d.wid ∧ Free l (x.at_ X Y)
theorem Asked.atOk (h : Asked bs l d x) (X Y : Int) : atOk bs l x X Y = true ↔ Fits l d x X Y := by
  unfold Go.Proofs.atOk Fits
  rw [beq_iff_eq, dock_add (x := x.at_ X Y) h.ok (fun b hb => h.new b hb) h.room, h.at_good]
  constructor
  · rintro ⟨⟨a, b, c, d⟩, e⟩; exact ⟨a, b, c, d, e⟩
  · rintro ⟨a, b, c, d, e⟩; exact ⟨⟨a, b, c, d⟩, e⟩
theorem near_iff (h : Asked bs l d x) (b : Sty) : nearD d x b = true ↔ b.bay.toList = x.bay.toList ∧ b.a < x.b ∧ x.a < b.b := by
  unfold nearD
  rw [h.bay]
  simp only [Bool.and_eq_true, beq_iff_eq, decide_eq_true_eq]
  constructor
  · rintro ⟨⟨a, b⟩, c⟩; exact ⟨a, c, b⟩
  · rintro ⟨a, b, c⟩; exact ⟨⟨a, c⟩, b⟩
theorem meet_iff (X Y : Int) (b : Sty) : meetB (x.at_ X Y) b = true ↔ x.a < b.b ∧ b.a < x.b ∧ X < IntKind.i64.wrap (b.x + b.len) ∧ b.x < IntKind.i64.wrap (X + x.len) ∧ Y < IntKind.i64.wrap (b.y + b.wid) ∧ b.y < IntKind.i64.wrap (Y + x.wid) := by
  show (decide (x.a < b.b) && decide (b.a < x.b) && decide (X < IntKind.i64.wrap (b.x + b.len)) && decide (b.x < IntKind.i64.wrap (X + x.len)) && decide (Y < IntKind.i64.wrap (b.y + b.wid)) && decide (b.y < IntKind.i64.wrap (Y + x.wid))) = true ↔ _
  simp only [Bool.and_eq_true, decide_eq_true_eq, and_assoc]
theorem Asked.okP (h : Asked bs l d x) (hne : l.any (endBad d x) = false) {X Y : Int} (hX : 0 ≤ X ∧ X ≤ 524288) (hY : 0 ≤ Y ∧ Y ≤ 524288) : okP d (besideL d l x) x X Y = true ↔ Fits l d x X Y := by
  have hl := h.len; have hw := h.wid
  unfold Go.Proofs.okP Fits
  rw [wrap_i64 (n := X + x.len) (by omega) (by omega), wrap_i64 (n := Y + x.wid) (by omega) (by omega)]
  simp only [Bool.and_eq_true, Bool.not_eq_true', decide_eq_true_eq]
  have key : (besideL d l x).any (meetB (x.at_ X Y)) = false ↔ Free l (x.at_ X Y) := by
    rw [List.any_eq_false]
    constructor
    · intro hh b hb e1 e2 e3
      have hn : nearD d x b = true := (near_iff h b).2 ⟨e1, e2, e3⟩
      refine ⟨?_, fun ho => ?_⟩
      · have := List.any_eq_false.1 hne b hb
        unfold endBad at this
        rw [hn] at this
        show b.b = x.b
        simpa using this
      · refine hh b (List.mem_filter.2 ⟨hb, hn⟩) ?_
        have gb := good_box h.bays (h.good hb)
        rw [meet_iff]
        simp only [Sty.at_] at ho e2 e3
        rw [wrap_i64 (n := b.x + b.len) (by omega) (by omega), wrap_i64 (n := X + x.len) (by omega) (by omega), wrap_i64 (n := b.y + b.wid) (by omega) (by omega), wrap_i64 (n := Y + x.wid) (by omega) (by omega)]
        omega
    · intro hf b hb hm
      obtain ⟨hb, hn⟩ := List.mem_filter.1 hb
      have hn := (near_iff h b).1 hn
      have gb := good_box h.bays (h.good hb)
      refine (hf b hb hn.1 hn.2.1 hn.2.2).2 ?_
      rw [meet_iff] at hm
      simp only [Sty.at_]
      rw [wrap_i64 (n := b.x + b.len) (by omega) (by omega), wrap_i64 (n := X + x.len) (by omega) (by omega), wrap_i64 (n := b.y + b.wid) (by omega) (by omega), wrap_i64 (n := Y + x.wid) (by omega) (by omega)] at hm
      omega
  rw [key]
  constructor
  · rintro ⟨⟨a, b⟩, c⟩; exact ⟨hX.1, hY.1, b, c, a⟩
  · rintro ⟨_, _, b, c, a⟩; exact ⟨⟨a, b⟩, c⟩
theorem mem_xsD (Z : Int) : Z ∈ xsD d l x ↔ Z = 0 ∨ ∃ b ∈ l, nearD d x b = true ∧ IntKind.i64.wrap (b.x + b.len) = Z := by
  unfold xsD besideL
  simp only [List.mem_cons, List.mem_map, List.mem_filter, and_assoc]
theorem mem_ysD (Z : Int) : Z ∈ ysD d l x ↔ Z = 0 ∨ ∃ b ∈ l, nearD d x b = true ∧ IntKind.i64.wrap (b.y + b.wid) = Z := by
  unfold ysD besideL
  simp only [List.mem_cons, List.mem_map, List.mem_filter, and_assoc]
theorem mem_xsA (Z : Int) : Z ∈ xsA l x ↔ Z = 0 ∨ ∃ b ∈ l, inDock x b = true ∧ IntKind.i64.wrap (b.x + b.len) = Z := by
  unfold xsA
  simp only [List.mem_cons, List.mem_map, List.mem_filter, and_assoc]
theorem mem_ysA (Z : Int) : Z ∈ ysA l x ↔ Z = 0 ∨ ∃ b ∈ l, inDock x b = true ∧ IntKind.i64.wrap (b.y + b.wid) = Z := by
  unfold ysA
  simp only [List.mem_cons, List.mem_map, List.mem_filter, and_assoc]
theorem Asked.xs_in (h : Asked bs l d x) {Z : Int} (hz : Z ∈ xsA l x) : 0 ≤ Z ∧ Z ≤ 524288 := by
  rcases (mem_xsA Z).1 hz with rfl | ⟨b, hb, _, rfl⟩
  · omega
  · have := good_box h.bays (h.good hb)
    rw [wrap_i64 (by omega) (by omega)]; omega
theorem Asked.ys_in (h : Asked bs l d x) {Z : Int} (hz : Z ∈ ysA l x) : 0 ≤ Z ∧ Z ≤ 524288 := by
  rcases (mem_ysA Z).1 hz with rfl | ⟨b, hb, _, rfl⟩
  · omega
  · have := good_box h.bays (h.good hb)
    rw [wrap_i64 (by omega) (by omega)]; omega
theorem Asked.xs_sub (h : Asked bs l d x) {Z : Int} (hz : Z ∈ xsD d l x) : Z ∈ xsA l x := by
  rcases (mem_xsD Z).1 hz with rfl | ⟨b, hb, hn, rfl⟩
  · exact (mem_xsA 0).2 (.inl rfl)
  · exact (mem_xsA _).2 (.inr ⟨b, hb, by unfold inDock; simpa using ((near_iff h b).1 hn).1, rfl⟩)
theorem Asked.ys_sub (h : Asked bs l d x) {Z : Int} (hz : Z ∈ ysD d l x) : Z ∈ ysA l x := by
  rcases (mem_ysD Z).1 hz with rfl | ⟨b, hb, hn, rfl⟩
  · exact (mem_ysA 0).2 (.inl rfl)
  · exact (mem_ysA _).2 (.inr ⟨b, hb, by unfold inDock; simpa using ((near_iff h b).1 hn).1, rfl⟩)
theorem Asked.down (h : Asked bs l d x) {X Y : Int} (hF : Fits l d x X Y) : ∃ X' ∈ xsD d l x, ∃ Y' ∈ ysD d l x, X' ≤ X ∧ Y' ≤ Y ∧ Fits l d x X' Y' := by
  obtain ⟨hX0, hY0, hXl, hYl, hf⟩ := hF
  have hl := h.len; have hw := h.wid
  obtain ⟨y0, hy0, hyY, hym⟩ := exists_floor Y (ysD d l x) ⟨0, (mem_ysD _).2 (.inl rfl), by omega⟩
  have hy0p := h.ys_in (h.ys_sub hy0)
  have f1 : Free l (x.at_ X y0) := by
    intro b hb e1 e2 e3
    have gb := good_box h.bays (h.good hb)
    have k := hf b hb e1 e2 e3
    refine ⟨k.1, fun ho => ?_⟩
    simp only [Sty.at_] at ho k e1 e2 e3
    have hm : b.y + b.wid ∈ ysD d l x := (mem_ysD _).2 (.inr ⟨b, hb, (near_iff h b).2 ⟨e1, e2, e3⟩, wrap_i64 (by omega) (by omega)⟩)
    by_cases hc : b.y + b.wid ≤ Y
    · have := hym _ hm hc; omega
    · exact k.2 ⟨by omega, by omega, by omega, by omega⟩
  obtain ⟨x0, hx0, hxX, hxm⟩ := exists_floor X (xsD d l x) ⟨0, (mem_xsD _).2 (.inl rfl), by omega⟩
  have hx0p := h.xs_in (h.xs_sub hx0)
  refine ⟨x0, hx0, y0, hy0, hxX, hyY, hx0p.1, hy0p.1, by omega, by omega, fun b hb e1 e2 e3 => ?_⟩
  have gb := good_box h.bays (h.good hb)
  have k := f1 b hb e1 e2 e3
  refine ⟨k.1, fun ho => ?_⟩
  simp only [Sty.at_] at ho k e1 e2 e3
  have hm : b.x + b.len ∈ xsD d l x := (mem_xsD _).2 (.inr ⟨b, hb, (near_iff h b).2 ⟨e1, e2, e3⟩, wrap_i64 (by omega) (by omega)⟩)
  by_cases hc : b.x + b.len ≤ X
  · have := hxm _ hm hc; omega
  · exact k.2 ⟨by omega, by omega, by omega, by omega⟩
theorem Asked.no_end (h : Asked bs l d x) {X Y : Int} (hF : Fits l d x X Y) : l.any (endBad d x) = false := by
  rw [List.any_eq_false]
  intro b hb hbad
  unfold endBad at hbad
  simp only [Bool.and_eq_true, bne_iff_ne, ne_eq] at hbad
  have hn := (near_iff h b).1 hbad.1
  exact hbad.2 (hF.2.2.2.2 b hb hn.1 hn.2.1 hn.2.2).1
theorem place_at (h : Asked bs l d x) : placeD d l x = atD bs l x := by
  unfold placeD atD
  cases hne : l.any (endBad d x)
  · rw [if_neg (by simp)]
    rw [scan_eq (P := Go.Proofs.okP d (besideL d l x) x) (Q := Go.Proofs.atOk bs l x) (sortI_asc _) (sortI_asc _) (cs_asc2 (ysA l x)) (cs_asc2 (xsA l x))
      (fun y hy => (mem_cs _ _).2 (h.ys_sub ((mem_sortI _ _).1 hy))) (fun y hy => (mem_cs _ _).2 (h.xs_sub ((mem_sortI _ _).1 hy))) ?_ ?_]
    · intro X hX Y hY
      rw [Bool.eq_iff_iff, h.okP hne (h.xs_in ((mem_cs _ _).1 hX)) (h.ys_in ((mem_cs _ _).1 hY)), h.atOk]
    · intro X _ Y _ hQ
      obtain ⟨X', hX', Y', hY', k1, k2, k3⟩ := h.down ((h.atOk X Y).1 hQ)
      exact ⟨X', (mem_sortI _ _).2 hX', Y', (mem_sortI _ _).2 hY', k1, k2, (h.atOk _ _).2 k3⟩
  · rw [if_pos rfl]
    cases hs : scanE (Go.Proofs.atOk bs l x) (Lib.compact (sortI (ysA l x))) (Lib.compact (sortI (xsA l x))) with
    | none => rfl
    | some o =>
      have := h.no_end ((h.atOk _ _).1 (scanE_some hs))
      rw [hne] at this; cases this
theorem at_some (h : Asked bs l d x) {X Y : Int} (hF : Fits l d x X Y) : (atD bs l x).isSome = true := by
  obtain ⟨X', hX', Y', hY', _, _, k3⟩ := h.down hF
  obtain ⟨o, ho⟩ := scanE_is (P := Go.Proofs.atOk bs l x) ((mem_cs _ _).2 (h.xs_sub hX')) ((mem_cs _ _).2 (h.ys_sub hY')) ((h.atOk _ _).2 k3)
  unfold atD
  rw [ho]; rfl
theorem at_is (h : Asked bs l d x) {y : Sty} (hy : atD bs l x = some y) : ∃ X Y, y = x.at_ X Y ∧ Fits l d x X Y := by
  unfold atD at hy
  cases hs : scanE (Go.Proofs.atOk bs l x) (Lib.compact (sortI (ysA l x))) (Lib.compact (sortI (xsA l x))) with
  | none => rw [hs] at hy; cases hy
  | some o =>
    rw [hs] at hy
    simp only [Option.map_some, Option.some.injEq] at hy
    exact ⟨o.1, o.2, hy.symm, (h.atOk _ _).1 (scanE_some hs)⟩
end
end Go.Proofs
end
section
set_option linter.unusedVariables false
set_option linter.unusedSimpArgs false
namespace Go.Proofs
open Go Go.Ab
set_option maxHeartbeats 4000000
set_option maxRecDepth 100000
set_option linter.unusedSimpArgs false
set_option linter.unusedVariables false
attribute [local irreducible] Awp aops aopsL Go.Ab.Pure PureOwn
def Sp.cells (s : Sp) : List AV := [.v (.int .i64 s.a), .v (.int .i64 s.b)]
def Sp.av (s : Sp) : AV := .agg s.cells
attribute [go_sem] Sp.av Sp.cells
def sps (l : List Sp) : List (List AV) := l.map Sp.cells
@[go_sem] theorem sps_len (l : List Sp) : (sps l).length = l.length := by simp [sps]
theorem sps_at (l : List Sp) (i : Nat) (h : i < l.length) : (sps l).getD i [] = (l.getD i zeroSp).cells := by
  simp [sps, List.getD_eq_getElem?_getD, h]
theorem sps_one (l : List Sp) : ∀ y ∈ sps l, y.length = 2 := by
  intro y hy; obtain ⟨s, _, rfl⟩ := List.mem_map.1 hy; rfl
theorem sps_append (l m : List Sp) : sps (l ++ m) = sps l ++ sps m := by simp [sps]
theorem sps_snoc (l : List Sp) (x : Sp) : sps l ++ [[.v (.int .i64 x.a), .v (.int .i64 x.b)]] = sps (l ++ [x]) := by simp [sps, Sp.cells]
theorem sps_one1 (x : Sp) : [[AV.v (.int .i64 x.a), .v (.int .i64 x.b)]] = sps [x] := rfl
theorem sps_set (l : List Sp) (i : Nat) (x : Sp) : (sps l).set i [.v (.int .i64 x.a), .v (.int .i64 x.b)] = sps (l.set i x) := by
  simp [sps, List.map_set, Sp.cells]
theorem empty_ok (x : Sp) : Pure Tryz.prog 102 [x.av] (.v (.bool (decide (x.b ≤ x.a)))) := by
  refine fn_pure Tryz.F102 (Nat.le_of_ble_eq_true rfl) ?_; unfold Tryz.ac102
  repeat' (first
    | (apply Awp.sreg; (case hn => (simp only [List.length_cons, List.length_nil, Nat.reduceAdd] <;> rfl)))
    | (refine st_nil ?_)
    | (apply st_a; (case hc => rfl); (case he => (simp only [go_sem, *] <;> rfl)); (case hu => (simp only [updL_nil, updL_cons] <;> rfl)); (case hp => first | trivial))
    | (refine Awp.ret ?_; try simp only [go_sem, *]))
  all_goals repeat' (first | exact Lower.bool (by first | rfl | (simp only [true_and, Bool.true_and, Bool.false_and, Bool.and_true, Bool.and_false, Bool.true_or, Bool.false_or, reduceIte, Bool.false_eq_true, *]; done) | (simp only [true_and, reduceIte, Bool.false_eq_true, *] <;> rfl) | (simp [true_and]; done) | (simp_all [true_and]; done) | omega))
def inB (n : Int) (s : Sp) : Bool := decide (s.a ≤ n) && decide (n < s.b)
theorem index_ok (l : List Sp) (g : Nat) (cs : List AV) (p : Sp → Bool) (hl : l.length < 1000000) (hp : ∀ x : Sp, Pure Tryz.prog g [x.av, .rp cs] (.v (.bool (p x)))) :
    Pure Tryz.prog 111 [.sl (sps l), .fn g [.rp cs]] (.v (.int .i64 (idxF p l))) := by
  refine fn_pure Tryz.F111 (Nat.le_of_ble_eq_true rfl) ?_; unfold Tryz.ac111
  repeat' (first
    | (apply Awp.sreg; (case hn => (simp only [List.length_cons, List.length_nil, Nat.reduceAdd] <;> rfl)))
    | (refine st_nil ?_)
    | (apply st_a; (case hc => rfl); (case he => (simp only [go_sem, *] <;> rfl)); (case hu => (simp only [updL_nil, updL_cons] <;> rfl)); (case hp => first | trivial))
    | refine Awp.block ?_
    | refine Awp.seq ?_)
  refine Awp.loop (fun i : Nat => i ≤ l.length ∧ ∀ j, j < i → p (l.getD j zeroSp) = false) 40 (fun i => mkS [(0, .sl (sps l)), (1, .fn g [.rp cs]), (7, .v (.int .i64 l.length)), (8, .v (.int .i64 i))] []) (fun i => l.length - i) 0 (by simp) ?_ ?_
  · (apply Ghost.mk [] []; (case hdead => rfl); (case hinj => rfl); (case hV => (simp only [go_sem, *]) <;> (repeat' (first | refine And.intro ?_ ?_ | exact View.int (by first | rfl | omega | (simp; done) | (rw [wrap_i64] <;> (try simp only [Int.natCast_add]) <;> omega) | (simp [*]; done)) | (refine View.fnF ?_; (simp [AV.flat]; done))))); (case hB => (simp only [go_sem, *]) <;> (repeat' (first | skip; done))))
  · intro i ⟨hi, hj⟩
    by_cases hlt : i < l.length
    · have hlt' : (i : Int) < l.length := by omega
      have hat := sps_at l i hlt
      have hz : ((l.getD i zeroSp).cells).length = 2 := rfl
      have hpi := hp (l.getD i zeroSp)
      repeat' (first
    | (apply Awp.sreg; (case hn => (simp only [List.length_cons, List.length_nil, Nat.reduceAdd] <;> rfl)))
    | (refine st_nil ?_)
    | (apply st_a; (case hc => rfl); (case he => (simp only [go_sem, *] <;> rfl)); (case hu => (simp only [updL_nil, updL_cons] <;> rfl)); (case hp => first | trivial | omega))
    | (apply st_c; (case hc => (simp only [go_sem, *] <;> rfl)); (case hl => (simp only [go_sem, *] <;> rfl)); (case hn => (simp only [go_sem, *] <;> rfl)); (case hp => first | exact hpi | (have hXz := hpi; simp only [go_sem, *] at hXz; exact hXz)))
    | (apply Awp.reg; (case hn => (simp only [List.length_cons, List.length_nil, Nat.reduceAdd] <;> rfl)))
    | (refine Awp.ret ?_; try simp only [go_sem, *])
    | (refine Awp.skip ?_; try simp only [go_sem, *])
    | refine Awp.block ?_
    | (apply Awp.cond; (case hc => (simp only [go_sem, *] <;> rfl)); all_goals (intro hg; (try simp only [Bool.not_true, Bool.not_false, reduceCtorEq] at hg)))
    | refine Awp.seq ?_)
      · exact Lower.int (idxF_in hlt hg hj).symm
      · refine ⟨i + 1, ⟨by omega, ltSucc hj hg⟩, by omega, ?_⟩
        (apply Ghost.mk [] []; (case hdead => rfl); (case hinj => rfl); (case hV => (simp only [go_sem, *]) <;> (repeat' (first | refine And.intro ?_ ?_ | exact View.int (by first | rfl | omega | (simp; done) | (rw [wrap_i64] <;> (try simp only [Int.natCast_add]) <;> omega) | (simp [*]; done)) | (refine View.fnF ?_; (simp [AV.flat]; done))))); (case hB => (simp only [go_sem, *]) <;> (repeat' (first | skip; done))))
    · have hlt' : ¬ (i : Int) < l.length := by omega
      repeat' (first
    | (apply Awp.sreg; (case hn => (simp only [List.length_cons, List.length_nil, Nat.reduceAdd] <;> rfl)))
    | (refine st_nil ?_)
    | (apply st_a; (case hc => rfl); (case he => (simp only [go_sem, *] <;> rfl)); (case hu => (simp only [updL_nil, updL_cons] <;> rfl)); (case hp => first | trivial))
    | (refine Awp.ret ?_; try simp only [go_sem, *])
    | (refine Awp.exit ?_; try simp only [go_sem, *])
    | (apply Awp.cond; (case hc => (simp only [go_sem, *] <;> rfl)); all_goals (intro hg; (try simp only [Bool.not_true, Bool.not_false, reduceCtorEq] at hg); (try have hg' := hg); (try simp only [decide_eq_true_eq, decide_eq_false_iff_not, Bool.and_eq_true, Bool.or_eq_false_iff, bne_iff_ne, bne_eq_false_iff_eq, beq_iff_eq, beq_eq_false_iff_ne, Int.not_lt, Int.not_le, Int.ofNat_lt, Int.ofNat_le, Int.natCast_inj] at hg')))
    | refine Awp.seq ?_)
      exact Lower.int (idxF_out (Nat.le_of_not_lt hlt) hj).symm
theorem indexN_ok (l : List Sp) (g : Nat) (p : Sp → Bool) (hl : l.length < 1000000) (hp : ∀ x : Sp, Pure Tryz.prog g [x.av] (.v (.bool (p x)))) :
    Pure Tryz.prog 111 [.sl (sps l), .fn g []] (.v (.int .i64 (idxF p l))) := by
  refine fn_pure Tryz.F111 (Nat.le_of_ble_eq_true rfl) ?_; unfold Tryz.ac111
  repeat' (first
    | (apply Awp.sreg; (case hn => (simp only [List.length_cons, List.length_nil, Nat.reduceAdd] <;> rfl)))
    | (refine st_nil ?_)
    | (apply st_a; (case hc => rfl); (case he => (simp only [go_sem, *] <;> rfl)); (case hu => (simp only [updL_nil, updL_cons] <;> rfl)); (case hp => first | trivial))
    | refine Awp.block ?_
    | refine Awp.seq ?_)
  refine Awp.loop (fun i : Nat => i ≤ l.length ∧ ∀ j, j < i → p (l.getD j zeroSp) = false) 40 (fun i => mkS [(0, .sl (sps l)), (1, .fn g []), (7, .v (.int .i64 l.length)), (8, .v (.int .i64 i))] []) (fun i => l.length - i) 0 (by simp) ?_ ?_
  · (apply Ghost.mk [] []; (case hdead => rfl); (case hinj => rfl); (case hV => (simp only [go_sem, *]) <;> (repeat' (first | refine And.intro ?_ ?_ | exact View.int (by first | rfl | omega | (simp; done) | (rw [wrap_i64] <;> (try simp only [Int.natCast_add]) <;> omega) | (simp [*]; done)) | (refine View.fnF ?_; (simp [AV.flat]; done))))); (case hB => (simp only [go_sem, *]) <;> (repeat' (first | skip; done))))
  · intro i ⟨hi, hj⟩
    by_cases hlt : i < l.length
    · have hlt' : (i : Int) < l.length := by omega
      have hat := sps_at l i hlt
      have hz : ((l.getD i zeroSp).cells).length = 2 := rfl
      have hpi := hp (l.getD i zeroSp)
      repeat' (first
    | (apply Awp.sreg; (case hn => (simp only [List.length_cons, List.length_nil, Nat.reduceAdd] <;> rfl)))
    | (refine st_nil ?_)
    | (apply st_a; (case hc => rfl); (case he => (simp only [go_sem, *] <;> rfl)); (case hu => (simp only [updL_nil, updL_cons] <;> rfl)); (case hp => first | trivial | omega))
    | (apply st_c; (case hc => (simp only [go_sem, *] <;> rfl)); (case hl => (simp only [go_sem, *] <;> rfl)); (case hn => (simp only [go_sem, *] <;> rfl)); (case hp => first | exact hpi | (have hXz := hpi; simp only [go_sem, *] at hXz; exact hXz)))
    | (apply Awp.reg; (case hn => (simp only [List.length_cons, List.length_nil, Nat.reduceAdd] <;> rfl)))
    | (refine Awp.ret ?_; try simp only [go_sem, *])
    | (refine Awp.skip ?_; try simp only [go_sem, *])
    | refine Awp.block ?_
    | (apply Awp.cond; (case hc => (simp only [go_sem, *] <;> rfl)); all_goals (intro hg; (try simp only [Bool.not_true, Bool.not_false, reduceCtorEq] at hg)))
    | refine Awp.seq ?_)
      · exact Lower.int (idxF_in hlt hg hj).symm
      · refine ⟨i + 1, ⟨by omega, ltSucc hj hg⟩, by omega, ?_⟩
        (apply Ghost.mk [] []; (case hdead => rfl); (case hinj => rfl); (case hV => (simp only [go_sem, *]) <;> (repeat' (first | refine And.intro ?_ ?_ | exact View.int (by first | rfl | omega | (simp; done) | (rw [wrap_i64] <;> (try simp only [Int.natCast_add]) <;> omega) | (simp [*]; done)) | (refine View.fnF ?_; (simp [AV.flat]; done))))); (case hB => (simp only [go_sem, *]) <;> (repeat' (first | skip; done))))
    · have hlt' : ¬ (i : Int) < l.length := by omega
      repeat' (first
    | (apply Awp.sreg; (case hn => (simp only [List.length_cons, List.length_nil, Nat.reduceAdd] <;> rfl)))
    | (refine st_nil ?_)
    | (apply st_a; (case hc => rfl); (case he => (simp only [go_sem, *] <;> rfl)); (case hu => (simp only [updL_nil, updL_cons] <;> rfl)); (case hp => first | trivial))
    | (refine Awp.ret ?_; try simp only [go_sem, *])
    | (refine Awp.exit ?_; try simp only [go_sem, *])
    | (apply Awp.cond; (case hc => (simp only [go_sem, *] <;> rfl)); all_goals (intro hg; (try simp only [Bool.not_true, Bool.not_false, reduceCtorEq] at hg); (try have hg' := hg); (try simp only [decide_eq_true_eq, decide_eq_false_iff_not, Bool.and_eq_true, Bool.or_eq_false_iff, bne_iff_ne, bne_eq_false_iff_eq, beq_iff_eq, beq_eq_false_iff_ne, Int.not_lt, Int.not_le, Int.ofNat_lt, Int.ofNat_le, Int.natCast_inj] at hg')))
    | refine Awp.seq ?_)
      exact Lower.int (idxF_out (Nat.le_of_not_lt hlt) hj).symm
end Go.Proofs
end
section
set_option linter.unusedVariables false
set_option linter.unusedSimpArgs false
namespace Go.Proofs
open Go Go.Ab
set_option maxHeartbeats 4000000
set_option maxRecDepth 100000
set_option linter.unusedSimpArgs false
set_option linter.unusedVariables false
attribute [local irreducible] Awp aops aopsL Go.Ab.Pure PureOwn
def zrow : List AV := [.v (.int .i64 0), .v (.int .i64 0)]
def delRow (l : List Sp) : List (List AV) := sps (l.filter fullB) ++ List.replicate (l.length - (l.filter fullB).length) zrow
theorem full_not (s : Sp) : fullB s = !decide (s.b ≤ s.a) := by
  unfold fullB
  rw [Bool.eq_iff_iff]; simp
theorem filter_none {l : List Sp} (h : ∀ j, j < l.length → decide ((l.getD j zeroSp).b ≤ (l.getD j zeroSp).a) = false) : l.filter fullB = l := by
  rw [List.filter_eq_self]
  intro x hx
  obtain ⟨i, hi, rfl⟩ := List.getElem_of_mem hx
  have := h i hi
  rw [List.getD_eq_getElem?_getD, List.getElem?_eq_getElem hi] at this
  simp only [Option.getD_some] at this
  rw [full_not, this]; rfl
theorem idxF_some {α : Type} {p : α → Bool} {l : List α} (d : α) : (idxF p l = -1 ∧ ∀ j, j < l.length → p (l.getD j d) = false) ∨ ∃ i, i < l.length ∧ idxF p l = i ∧ p (l.getD i d) = true ∧ ∀ j, j < i → p (l.getD j d) = false := by
  have hg : ∀ j (hh : j < l.length), l.getD j d = l[j] := fun j hh => by simp [List.getD_eq_getElem?_getD, hh]
  unfold idxF
  by_cases h : l.findIdx p < l.length
  · right
    refine ⟨l.findIdx p, h, by rw [if_pos h], ?_, fun j hj => ?_⟩
    · rw [hg _ h]; exact List.findIdx_getElem (w := h)
    · rw [hg j (by omega)]
      have := List.not_of_lt_findIdx hj
      simpa using this
  · left
    refine ⟨by rw [if_neg h], fun j hj => ?_⟩
    rw [hg j hj]
    rw [Bool.eq_false_iff]
    intro hp
    exact h (List.findIdx_lt_length_of_exists ⟨_, List.getElem_mem hj, hp⟩)
def keepL (l : List Sp) (j : Nat) : List Sp := (l.take j).filter fullB
theorem take_snocS (l : List Sp) (i : Nat) (h : i < l.length) : l.take (i + 1) = l.take i ++ [l.getD i zeroSp] := by
  rw [List.take_add_one, List.getElem?_eq_getElem h]
  simp [List.getD_eq_getElem?_getD, h]
theorem keep_step (l : List Sp) (j : Nat) (h : j < l.length) : keepL l (j + 1) = keepL l j ++ (if fullB (l.getD j zeroSp) = true then [l.getD j zeroSp] else []) := by
  unfold keepL
  rw [take_snocS l j h, List.filter_append]
  congr 1
  by_cases hp : fullB (l.getD j zeroSp) = true
  · rw [if_pos hp, List.filter_cons_of_pos hp]; rfl
  · rw [if_neg hp, List.filter_cons_of_neg hp]; rfl
theorem drop_cons (l : List Sp) (j : Nat) (h : j < l.length) : l.drop j = l.getD j zeroSp :: l.drop (j + 1) := by
  rw [List.drop_eq_getElem_cons h]
  simp [List.getD_eq_getElem?_getD, h]
def dS (l : List Sp) (q : Nat × List Sp) : AState :=
  mkS [(0, .own 2), (1, .fn 102 []), (5, .v (.int .i64 (keepL l q.1).length)), (6, .v (.int .i64 q.1))] [(2, .row (sps (keepL l q.1 ++ q.2 ++ l.drop q.1)) 2 30)]
theorem del_cc (l : List Sp) (nm : Nat) (hl : l.length < 100000) (hnm : 3 ≤ nm) :
    CallC Tryz.prog 100 [.own 2, .fn 102 []] [(2, .row (sps l) 2 30)] nm (.pre 2 (l.filter fullB).length) [(2, some (.row (delRow l) 2 30))] := by
  have c0 := indexN_ok l 102 (fun s => decide (s.b ≤ s.a)) (by omega) empty_ok
  have hll := sps_len l
  rcases idxF_some (p := fun s : Sp => decide (s.b ≤ s.a)) (l := l) zeroSp with ⟨e, hall⟩ | ⟨i0, hi0, e, hp, hall⟩
  · have hf := filter_none hall
    have hd : delRow l = sps l := by unfold delRow; rw [hf]; simp
    rw [hd, hf]
    rw [e] at c0
    have key : CallC Tryz.prog 100 [.own 2, .fn 102 []] [(2, .row (sps l) 2 30)] nm (.own 2) [(2, some (.row (sps l) 2 30))] := by
      refine fn_cc Tryz.F100 (Nat.le_of_ble_eq_true rfl) (bs := 3) ?_ ?_ ?_ ?_ ?_ ?_ ?_
      · simp
      · simp; omega
      · simp
      · simp
      · simp only [List.map_cons, List.map_nil, List.mem_cons, List.not_mem_nil, or_false]
        rintro p rfl
        exact .row rfl
      · intro j hj
        match j, hj with
        | 0, _ => exact .own rfl (by simp)
        | 1, _ => exact .fn rfl fun j hj => by simp at hj
      · unfold Tryz.ac100
        clear hd hf hall e
        have hav0 : av [AV.own 2, AV.fn 102 []] 0 = AV.own 2 := rfl
        have hav1 : av [AV.own 2, AV.fn 102 []] 1 = AV.fn 102 [] := rfl
        repeat' (first
    | (apply Awp.sreg; (case hn => (simp only [List.length_cons, List.length_nil, Nat.reduceAdd] <;> rfl)))
    | (refine st_nil ?_)
    | (apply st_a; (case hc => rfl); (case he => (simp only [go_sem, *] <;> rfl)); (case hu => (simp only [updL_nil, updL_cons] <;> rfl)); (case hp => first | trivial))
    | (apply st_cd; (case hc => (simp only [go_sem, *] <;> rfl)); (case hl => (simp only [go_sem, *] <;> rfl)); (case hn => (simp only [go_sem, *] <;> rfl)); (case hp => first | exact c0 | (have hXz := c0; simp only [go_sem, *] at hXz; exact hXz)); (case hd => first | exact .v _ | exact .any | exact .nils | (repeat' (first | exact Dry.v _ | exact Dry.any | exact Dry.nils | exact Dry.slE | refine Dry.agg ?_ | refine Dry.tup ?_ | (refine List.forall_mem_cons.2 (And.intro ?_ ?_)) | (intro cQ hQ; cases hQ; done)))); (case hm => first | decide | (simp; done)))
    | (refine Awp.ret ?_; try simp only [go_sem, *])
    | (apply Awp.cond; (case hc => (simp only [go_sem, *] <;> rfl)); all_goals (intro hg; (try simp only [Bool.not_true, Bool.not_false, reduceCtorEq] at hg)))
    | refine Awp.seq ?_)
        have hr : ∀ k, k < 3 → rn nm 3 k = k := fun k hk => by unfold rn; rw [if_neg (by omega)]
        refine ⟨3, Nat.le_refl _, .own (hr 2 (by omega)) (by simp), fun k b' hk => ?_⟩
        by_cases h2 : k = 2
        · subst h2
          have e1 : b' = .row (sps l) 2 30 := by simpa [upd] using hk.symm
          subst e1
          rw [hr 2 (by omega)]
          exact ⟨_, rfl, .row rfl⟩
        · simp [upd, updL, listH, h2] at hk
    have := key.ownPre (es := sps l) (sz := 2) (e := 30) (by simp [updL, upd]) (by simp)
    rw [sps_len] at this
    exact this
  · rw [e] at c0
    refine fn_cc Tryz.F100 (Nat.le_of_ble_eq_true rfl) (bs := 3) ?_ ?_ ?_ ?_ ?_ ?_ ?_
    · simp
    · simp; omega
    · simp
    · simp
    · simp only [List.map_cons, List.map_nil, List.mem_cons, List.not_mem_nil, or_false]
      rintro p rfl
      exact .row rfl
    · intro j hj
      match j, hj with
      | 0, _ => exact .own rfl (by simp)
      | 1, _ => exact .fn rfl fun j hj => by simp at hj
    · unfold Tryz.ac100
      have hav0 : av [AV.own 2, AV.fn 102 []] 0 = AV.own 2 := rfl
      have hav1 : av [AV.own 2, AV.fn 102 []] 1 = AV.fn 102 [] := rfl
      have hk0 : keepL l i0 = l.take i0 := by
        unfold keepL
        rw [List.filter_eq_self]
        intro x hx
        obtain ⟨j, hj, rfl⟩ := List.mem_take_iff_getElem.1 hx
        have := hall j (by omega)
        rw [List.getD_eq_getElem?_getD, List.getElem?_eq_getElem (by omega)] at this
        simp only [Option.getD_some] at this
        rw [full_not, this]; rfl
      have hk1 : keepL l (i0 + 1) = l.take i0 := by
        rw [keep_step l i0 hi0, full_not, hp, hk0]; simp
      have hrow : keepL l (i0 + 1) ++ [l.getD i0 zeroSp] ++ l.drop (i0 + 1) = l := by
        rw [hk1, List.append_assoc, List.singleton_append, ← drop_cons l i0 hi0, List.take_append_drop]
      have hk1l : (keepL l (i0 + 1)).length = i0 := by rw [hk1]; simp; omega
      have hne : ((i0 : Int) == -1) = false := by simp
      have hw : IntKind.i64.wrap ((i0 : Int) + 1) = ((i0 + 1 : Nat) : Int) := by rw [wrap_i64 (by omega) (by omega)]; simp
      clear hall e hp hk0 hk1
      repeat' (first
    | (apply Awp.sreg; (case hn => (simp only [List.length_cons, List.length_nil, Nat.reduceAdd] <;> rfl)))
    | (refine st_nil ?_)
    | (apply st_a; (case hc => rfl); (case he => (simp only [go_sem, *] <;> rfl)); (case hu => (simp only [updL_nil, updL_cons] <;> rfl)); (case hp => first | trivial))
    | (apply st_cd; (case hc => (simp only [go_sem, *] <;> rfl)); (case hl => (simp only [go_sem, *] <;> rfl)); (case hn => (simp only [go_sem, *] <;> rfl)); (case hp => first | exact c0 | (have hXz := c0; simp only [go_sem, *] at hXz; exact hXz)); (case hd => first | exact .v _ | exact .any | exact .nils | (repeat' (first | exact Dry.v _ | exact Dry.any | exact Dry.nils | exact Dry.slE | refine Dry.agg ?_ | refine Dry.tup ?_ | (refine List.forall_mem_cons.2 (And.intro ?_ ?_)) | (intro cQ hQ; cases hQ; done)))); (case hm => first | decide | (simp; done)))
    | (refine Awp.skip ?_; try simp only [go_sem, *])
    | refine Awp.block ?_
    | (apply Awp.cond; (case hc => (simp only [go_sem, *] <;> rfl)); all_goals (intro hg; (try simp only [Bool.not_true, Bool.not_false, reduceCtorEq] at hg)))
    | refine Awp.seq ?_)
      refine Awp.loop (fun q : Nat × List Sp => q.1 ≤ l.length ∧ 0 < q.2.length ∧ (keepL l q.1).length + q.2.length = q.1) 100 (dS l) (fun q => l.length - q.1) (i0 + 1, [l.getD i0 zeroSp]) ⟨by dsimp only; omega, by simp, by dsimp only; rw [hk1l]; simp⟩ ?_ ?_
      · unfold dS
        dsimp only
        rw [hrow, hk1l]
        (apply Ghost.mkB []; (case hnb => rfl); (case hbx => omega); (case hinj => rfl); (case hV => (simp only [go_sem, *]) <;> (repeat' (first | refine And.intro ?_ ?_ | exact .own rfl (by decide) | (refine View.fnF ?_; (simp [AV.flat]; done))))); (case hB => (simp only [go_sem, *]) <;> (repeat' (first | exact ⟨_, rfl, .rowE (by first | rfl | omega | (simp; done) | (rw [wrap_i64] <;> (try simp only [Int.natCast_add]) <;> omega) | (simp [*]; done))⟩))))
      · rintro ⟨j, G⟩ ⟨hj, hG, hKG⟩
        dsimp only at hj hG hKG
        clear hrow hk1l hne hw c0
        have hlen : (sps (keepL l j ++ G ++ l.drop j)).length = l.length := by rw [sps_len]; simp; omega
        by_cases hlt : j < l.length
        · have hlt' : (j : Int) < l.length := by omega
          have hat : (sps (keepL l j ++ G ++ l.drop j)).getD j [] = (l.getD j zeroSp).cells := by
            rw [sps_at _ _ (by simp; omega)]
            congr 1
            simp only [List.getD_eq_getElem?_getD]
            rw [List.getElem?_append_right (by simp; omega)]
            simp [hKG]
          have hz : ((l.getD j zeroSp).cells).length = 2 := rfl
          have hst := keep_step l j hlt
          have hdr := drop_cons l j hlt
          have hc := empty_ok (l.getD j zeroSp)
          obtain ⟨g, G', rfl⟩ : ∃ g G', G = g :: G' := by
            cases G with
            | nil => simp at hG
            | cons g G' => exact ⟨g, G', rfl⟩
          have hKl : (keepL l j).length < l.length := by simp at hKG; omega
          cases hB : decide ((l.getD j zeroSp).b ≤ (l.getD j zeroSp).a)
          · rw [hB] at hc
            rw [full_not, hB] at hst
            simp only [Bool.not_false, if_true] at hst
            have hkl2 : (keepL l (j + 1)).length = (keepL l j).length + 1 := by rw [hst]; simp
            have hset : (sps (keepL l j ++ g :: G' ++ l.drop j)).set (keepL l j).length (splice ((sps (keepL l j ++ g :: G' ++ l.drop j)).getD (keepL l j).length []) 0 [.v (.int .i64 (l.getD j zeroSp).a), .v (.int .i64 (l.getD j zeroSp).b)]) = sps (keepL l (j + 1) ++ (G' ++ [l.getD j zeroSp]) ++ l.drop (j + 1)) := by
              rw [sps_at _ _ (by simp)]
              have e1 : splice ((keepL l j ++ g :: G' ++ l.drop j).getD (keepL l j).length zeroSp).cells 0 [.v (.int .i64 (l.getD j zeroSp).a), .v (.int .i64 (l.getD j zeroSp).b)] = [.v (.int .i64 (l.getD j zeroSp).a), .v (.int .i64 (l.getD j zeroSp).b)] := rfl
              rw [e1, sps_set, hst, hdr]
              congr 1
              rw [List.append_assoc, List.set_append]
              simp
            have hcells : ((sps (keepL l j ++ g :: G' ++ l.drop j)).getD (keepL l j).length []).length = 2 := by
              rw [sps_at _ _ (by simp)]; rfl
            have hinv : (keepL l (j + 1)).length + (G' ++ [l.getD j zeroSp]).length = j + 1 := by
              rw [hkl2]; simp at hKG ⊢; omega
            have hw2 : IntKind.i64.wrap (((keepL l j).length : Int) + 1) = ((keepL l (j + 1)).length : Int) := by rw [hkl2, wrap_i64 (by omega) (by omega)]; simp
            unfold dS
            dsimp only
            generalize hE : sps (keepL l j ++ g :: G' ++ l.drop j) = E at *
            generalize hk : (keepL l j).length = K at *
            generalize l.getD j zeroSp = v at *
            clear hst hdr hB hk hE hkl2
            repeat' (first
    | (apply Awp.sreg; (case hn => (simp only [List.length_cons, List.length_nil, Nat.reduceAdd] <;> rfl)))
    | (refine st_nil ?_)
    | (apply st_a; (case hc => rfl); (case he => (simp only [go_sem, *] <;> rfl)); (case hu => (simp only [updL_nil, updL_cons] <;> rfl)); (case hp => first | trivial | omega | (simp; done)))
    | (apply st_c; (case hc => (simp only [go_sem, *] <;> rfl)); (case hl => (simp only [go_sem, *] <;> rfl)); (case hn => (simp only [go_sem, *] <;> rfl)); (case hp => first | exact hc | (have hXz := hc; simp only [go_sem, *] at hXz; exact hXz)))
    | (apply Awp.reg; (case hn => (simp only [List.length_cons, List.length_nil, Nat.reduceAdd] <;> rfl)))
    | (refine Awp.skip ?_; try simp only [go_sem, *])
    | refine Awp.block ?_
    | (apply Awp.cond; (case hc => (simp only [go_sem, *] <;> rfl)); all_goals (intro hg; (try simp only [Bool.not_true, Bool.not_false, reduceCtorEq] at hg)))
    | refine Awp.seq ?_)
            refine ⟨(j + 1, G' ++ [v]), ⟨by dsimp only; omega, by simp, hinv⟩, by dsimp only; omega, ?_⟩
            dsimp only
            (apply Ghost.mkB []; (case hnb => rfl); (case hbx => omega); (case hinj => rfl); (case hV => (simp only [go_sem, *]) <;> (repeat' (first | refine And.intro ?_ ?_ | exact View.int (by first | rfl | exact hset | omega | (simp; done) | (rw [wrap_i64] <;> (try simp only [Int.natCast_add]) <;> omega) | (simp [*]; done)) | exact .own rfl (by decide) | (refine View.fnF ?_; (simp [AV.flat]; done))))); (case hB => (simp only [go_sem, *]) <;> (repeat' (first | exact ⟨_, rfl, .rowE (by first | rfl | exact hset | omega | (simp; done) | (rw [wrap_i64] <;> (try simp only [Int.natCast_add]) <;> omega) | (simp [*]; done))⟩))))
          · rw [hB] at hc
            rw [full_not, hB] at hst
            simp only [Bool.not_true, Bool.false_eq_true, if_false, List.append_nil] at hst
            have hrow2 : keepL l (j + 1) ++ (g :: G' ++ [l.getD j zeroSp]) ++ l.drop (j + 1) = keepL l j ++ g :: G' ++ l.drop j := by
              rw [hst, hdr]; simp
            have hinv : (keepL l (j + 1)).length + (g :: G' ++ [l.getD j zeroSp]).length = j + 1 := by
              rw [hst]; simp at hKG ⊢; omega
            unfold dS
            dsimp only
            rw [← hst] at hat hlen hKl hrow2 ⊢
            generalize l.getD j zeroSp = v at *
            generalize hE : sps (keepL l (j + 1) ++ g :: G' ++ l.drop j) = E at *
            clear hst hdr hB
            repeat' (first
    | (apply Awp.sreg; (case hn => (simp only [List.length_cons, List.length_nil, Nat.reduceAdd] <;> rfl)))
    | (refine st_nil ?_)
    | (apply st_a; (case hc => rfl); (case he => (simp only [go_sem, *] <;> rfl)); (case hu => (simp only [updL_nil, updL_cons] <;> rfl)); (case hp => first | trivial | omega))
    | (apply st_c; (case hc => (simp only [go_sem, *] <;> rfl)); (case hl => (simp only [go_sem, *] <;> rfl)); (case hn => (simp only [go_sem, *] <;> rfl)); (case hp => first | exact hc | (have hXz := hc; simp only [go_sem, *] at hXz; exact hXz)))
    | (apply Awp.reg; (case hn => (simp only [List.length_cons, List.length_nil, Nat.reduceAdd] <;> rfl)))
    | (refine Awp.skip ?_; try simp only [go_sem, *])
    | refine Awp.block ?_
    | (apply Awp.cond; (case hc => (simp only [go_sem, *] <;> rfl)); all_goals (intro hg; (try simp only [Bool.not_true, Bool.not_false, reduceCtorEq] at hg)))
    | refine Awp.seq ?_)
            refine ⟨(j + 1, g :: G' ++ [v]), ⟨by dsimp only; omega, by simp, hinv⟩, by dsimp only; omega, ?_⟩
            dsimp only
            rw [hrow2, hE]
            (apply Ghost.mkB []; (case hnb => rfl); (case hbx => omega); (case hinj => rfl); (case hV => (simp only [go_sem, *]) <;> (repeat' (first | refine And.intro ?_ ?_ | exact View.int (by first | rfl | omega | (simp; done) | (rw [wrap_i64] <;> (try simp only [Int.natCast_add]) <;> omega) | (simp [*]; done)) | exact .own rfl (by decide) | (refine View.fnF ?_; (simp [AV.flat]; done))))); (case hB => (simp only [go_sem, *]) <;> (repeat' (first | exact ⟨_, rfl, .rowE (by first | rfl | omega | (simp; done) | (rw [wrap_i64] <;> (try simp only [Int.natCast_add]) <;> omega) | (simp [*]; done))⟩))))
        · have hlt' : ¬ (j : Int) < l.length := by omega
          have hjl : j = l.length := by omega
          have hdr : l.drop j = [] := List.drop_eq_nil_of_le (by omega)
          have hkf : keepL l j = l.filter fullB := by unfold keepL; rw [List.take_of_length_le (by omega)]
          have hfin : (sps (keepL l j ++ G ++ l.drop j)).take (keepL l j).length ++ List.replicate ((sps (keepL l j ++ G ++ l.drop j)).length - (keepL l j).length) [AV.v (.int .i64 0), .v (.int .i64 0)] = delRow l := by
            rw [hlen]
            unfold delRow zrow
            rw [← hkf]
            congr 1
            rw [List.append_assoc, sps_append, ← sps_len (keepL l j), List.take_left]
          have hpl : (l.filter fullB).length = (keepL l j).length := by rw [hkf]
          have hKl : (keepL l j).length < l.length := by omega
          rw [hpl]
          unfold dS
          dsimp only
          generalize hE : sps (keepL l j ++ G ++ l.drop j) = E at *
          generalize (keepL l j).length = K at *
          clear hE hdr hkf hpl hjl
          repeat' (first
    | (apply Awp.sreg; (case hn => (simp only [List.length_cons, List.length_nil, Nat.reduceAdd] <;> rfl)))
    | (refine st_nil ?_)
    | (apply st_a; (case hc => rfl); (case he => (simp only [go_sem, *] <;> rfl)); (case hu => (simp only [updL_nil, updL_cons] <;> rfl)); (case hp => first | trivial | omega | (simp; omega)))
    | (refine Awp.ret ?_; try simp only [go_sem, *])
    | (refine Awp.exit ?_; try simp only [go_sem, *])
    | (apply Awp.cond; (case hc => (simp only [go_sem, *] <;> rfl)); all_goals (intro hg; (try simp only [Bool.not_true, Bool.not_false, reduceCtorEq] at hg)))
    | refine Awp.seq ?_)
          have hr : ∀ k, k < 3 → rn nm 3 k = k := fun k hk => by unfold rn; rw [if_neg (by omega)]
          refine ⟨3, Nat.le_refl _, .pre (hr 2 (by omega)) (by simp), fun k b' hk => ?_⟩
          by_cases h2 : k = 2
          · subst h2
            have e1 : b' = .row (delRow l) 2 30 := by simpa [upd] using hk.symm
            subst e1
            rw [hr 2 (by omega)]
            exact ⟨_, rfl, .row (by rw [hlen] at hfin; exact hfin)⟩
          · simp [upd, updL, listH, h2] at hk
end Go.Proofs
end
section
set_option linter.unusedVariables false
set_option linter.unusedSimpArgs false
namespace Go.Proofs
open Go Go.Ab
set_option maxHeartbeats 4000000
set_option maxRecDepth 100000
set_option linter.unusedSimpArgs false
set_option linter.unusedVariables false
attribute [local irreducible] Awp aops aopsL Go.Ab.Pure PureOwn
theorem take_snocP (l : List Sp) (i : Nat) (h : i < l.length) : l.take (i + 1) = l.take i ++ [l.getD i zeroSp] := by
  rw [List.take_add_one, List.getElem?_eq_getElem h]
  simp [List.getD_eq_getElem?_getD, h]
theorem same_ok (a : List Sp) (hl : a.length < 1000000) : Pure Tryz.prog 17 [.sl (sps a), .sl (sps a)] (.v (.bool true)) := by
  have hn : ((a.length : Int) != a.length) = false := by simp
  refine fn_pure Tryz.F17 (Nat.le_of_ble_eq_true rfl) ?_; unfold Tryz.ac17
  repeat' (first
    | (apply Awp.sreg; (case hn => (simp only [List.length_cons, List.length_nil, Nat.reduceAdd] <;> rfl)))
    | (refine st_nil ?_)
    | (apply st_a; (case hc => rfl); (case he => (simp only [go_sem, *] <;> rfl)); (case hu => (simp only [updL_nil, updL_cons] <;> rfl)); (case hp => first | trivial))
    | (refine Awp.skip ?_; try simp only [go_sem, *])
    | refine Awp.block ?_
    | (apply Awp.cond; (case hc => (simp only [go_sem, *] <;> rfl)); all_goals (intro hg; (try simp only [Bool.not_true, Bool.not_false, reduceCtorEq] at hg)))
    | refine Awp.seq ?_)
  clear hn
  refine Awp.loop (fun i : Nat => i ≤ a.length) 60 (fun i => mkS [(0, .sl (sps a)), (1, .sl (sps a)), (5, .v (.int .i64 i))] []) (fun i => a.length - i) 0 (by omega) ?_ ?_
  · (apply Ghost.mk [] []; (case hdead => rfl); (case hinj => rfl); (case hV => (simp only [go_sem, *]) <;> (repeat' (first | exact View.int (by first | rfl | omega | (simp; done) | (rw [wrap_i64] <;> (try simp only [Int.natCast_add]) <;> omega) | (simp [*]; done))))); (case hB => (simp only [go_sem, *]) <;> (repeat' (first | skip; done))))
  · intro i hi
    by_cases hlt : i < a.length
    · have hlt' : (i : Int) < a.length := by omega
      have hat := sps_at a i hlt
      have hz : ((a.getD i zeroSp).cells).length = 2 := rfl
      generalize a.getD i zeroSp = x at *
      have e1 : (x.a == x.a) = true := by simp
      have e2 : (x.b == x.b) = true := by simp
      have e3 : (true ^^ true) = false := rfl
      repeat' (first
    | (apply Awp.sreg; (case hn => (simp only [List.length_cons, List.length_nil, Nat.reduceAdd] <;> rfl)))
    | (apply Awp.sdraw; (case hn => (simp only [List.length_cons, List.length_nil, Nat.reduceAdd] <;> rfl)))
    | (refine st_nil ?_)
    | (apply st_a; (case hc => rfl); (case he => (simp only [go_sem, *] <;> rfl)); (case hu => (simp only [updL_nil, updL_cons] <;> rfl)); (case hp => first | trivial))
    | (apply Awp.reg; (case hn => (simp only [List.length_cons, List.length_nil, Nat.reduceAdd] <;> rfl)))
    | (refine Awp.skip ?_; try simp only [go_sem, *])
    | refine Awp.block ?_
    | (apply Awp.cond; (case hc => (simp only [go_sem, *] <;> rfl)); all_goals (intro hg; (try simp only [Bool.not_true, Bool.not_false, reduceCtorEq] at hg)))
    | refine Awp.seq ?_
    | (apply sl_a; (case hc => rfl); (case he => (simp only [go_sem, *] <;> rfl)); (case hu => (simp only [updL_nil, updL_cons] <;> rfl)); (case hl => (simp only [List.map_cons, List.map_nil] <;> rfl)); (case hp => first | trivial | omega))
    | (refine sl_nil (And.intro (by first | exact drawOk_of (by decide +kernel) | (simp only [List.map_cons, List.map_nil]; exact drawOk_of (by decide +kernel)) | decide) ?_)))
      refine ⟨i + 1, by omega, by omega, ?_⟩
      (apply Ghost.mk [] []; (case hdead => rfl); (case hinj => rfl); (case hV => (simp only [go_sem, *]) <;> (repeat' (first | exact View.int (by first | rfl | omega | (simp; done) | (rw [wrap_i64] <;> (try simp only [Int.natCast_add]) <;> omega) | (simp [*]; done))))); (case hB => (simp only [go_sem, *]) <;> (repeat' (first | skip; done))))
    · have hlt' : ¬ (i : Int) < a.length := by omega
      repeat' (first
    | (apply Awp.sreg; (case hn => (simp only [List.length_cons, List.length_nil, Nat.reduceAdd] <;> rfl)))
    | (refine st_nil ?_)
    | (apply st_a; (case hc => rfl); (case he => (simp only [go_sem, *] <;> rfl)); (case hu => (simp only [updL_nil, updL_cons] <;> rfl)); (case hp => first | trivial))
    | (refine Awp.ret ?_; try simp only [go_sem, *])
    | (refine Awp.exit ?_; try simp only [go_sem, *])
    | (apply Awp.cond; (case hc => (simp only [go_sem, *] <;> rfl)); all_goals (intro hg; (try simp only [Bool.not_true, Bool.not_false, reduceCtorEq] at hg); (try have hg' := hg); (try simp only [decide_eq_true_eq, decide_eq_false_iff_not, Bool.and_eq_true, Bool.or_eq_false_iff, bne_iff_ne, bne_eq_false_iff_eq, beq_iff_eq, beq_eq_false_iff_ne, Int.not_lt, Int.not_le, Int.ofNat_lt, Int.ofNat_le, Int.natCast_inj] at hg')))
    | refine Awp.seq ?_)
      all_goals repeat' (first | exact Lower.bool (by first | rfl | (simp only [true_and, Bool.true_and, Bool.false_and, Bool.and_true, Bool.and_false, Bool.true_or, Bool.false_or, reduceIte, Bool.false_eq_true, *]; done) | (simp only [true_and, reduceIte, Bool.false_eq_true, *] <;> rfl) | (simp [true_and]; done) | (simp_all [true_and]; done) | omega))
def farB (s : Sp) : Bool := decide (s.a < -1099511627776) || decide (1099511627776 < s.a) || decide (s.b < -1099511627776) || decide (1099511627776 < s.b)
def nearB (l : List Sp) : Bool := l.all fun s => !farB s
end Go.Proofs
end
section
set_option linter.unusedVariables false
set_option linter.unusedSimpArgs false
namespace Go.Proofs
open Go Go.Ab
set_option maxHeartbeats 4000000
set_option maxRecDepth 100000
set_option linter.unusedSimpArgs false
set_option linter.unusedVariables false
attribute [local irreducible] Awp aops aopsL Go.Ab.Pure PureOwn
/-- A fact that simp leaves alone. -/
def Kept (p : Prop) : Prop := p
theorem Kept.out {p : Prop} (h : Kept p) : p := h
def stepI (acc : List Sp) (s : Sp) : List Sp := if fullB s = true then insS s acc else acc
theorem stepI_spec : ∀ (l acc : List Sp), acc.Pairwise (fun x y => x.a ≤ y.a) → (l.foldl stepI acc).Pairwise (fun x y => x.a ≤ y.a) ∧ ∀ x, x ∈ l.foldl stepI acc ↔ x ∈ acc ∨ x ∈ l.filter fullB
  | [], acc, h => ⟨h, fun x => by simp⟩
  | s :: l, acc, h => by
    rw [List.foldl_cons]
    unfold stepI
    by_cases hf : fullB s = true
    · rw [if_pos hf]
      have k := stepI_spec l (insS s acc) (insS_asc s acc h)
      unfold stepI at k
      refine ⟨k.1, fun x => ?_⟩
      rw [k.2 x, mem_insS, List.filter_cons_of_pos hf, List.mem_cons]
      constructor
      · rintro ((h | h) | h)
        · exact .inr (.inl h)
        · exact .inl h
        · exact .inr (.inr h)
      · rintro (h | h | h)
        · exact .inl (.inr h)
        · exact .inl (.inl h)
        · exact .inr h
    · rw [if_neg hf]
      have k := stepI_spec l acc h
      unfold stepI at k
      refine ⟨k.1, fun x => ?_⟩
      rw [k.2 x, List.filter_cons_of_neg hf]
theorem stepI_len : ∀ (l acc : List Sp), (l.foldl stepI acc).length ≤ acc.length + l.length
  | [], acc => by simp
  | s :: l, acc => by
    have h1 := stepI_len l (stepI acc s)
    have h2 : (stepI acc s).length ≤ acc.length + 1 := by
      unfold stepI
      split
      · have : ∀ l : List Sp, (insS s l).length = l.length + 1 := by
          intro l
          induction l with
          | nil => rfl
          | cons t l ih => unfold insS; split <;> simp [ih]
        rw [this]; omega
      · omega
    rw [List.foldl_cons]
    simp only [List.length_cons]
    omega
def rinL (l : List Sp) : List Sp := l.foldl stepI []
theorem rin_canon (l : List Sp) : mergeS (rinL l) = canon l := by
  have h := stepI_spec l [] List.Pairwise.nil
  exact merge_canon h.1 fun s => by unfold rinL; rw [h.2 s]; simp
theorem rin_len (l : List Sp) : (rinL l).length ≤ l.length := by have := stepI_len l []; simpa [rinL] using this
theorem merge_stepL (l : List Sp) (i : Nat) (h : i < l.length) : mergeS (l.take (i + 1)) = stepM (mergeS (l.take i)) (l.getD i zeroSp) := by
  unfold mergeS
  rw [take_snocP l i h, List.foldl_append]; rfl
theorem merge_len (l : List Sp) : (mergeS l).length ≤ l.length := by have := foldM_len l []; simpa [mergeS] using this
def rnS (l : List Sp) (L : List Sp) (i : Nat) : AState := mkS [(0, .sl (sps l)), (3, .own 2), (4, .v (.int .i64 i))] [(2, .row (sps L) 2 30)]
def rkS (l : List Sp) (L : List Sp) (i k : Nat) : AState := mkS [(0, .sl (sps l)), (3, .own 2), (4, .v (.int .i64 i)), (5, .v (.int .i64 k))] [(2, .row (sps L) 2 30)]
def rjS (l : List Sp) (L : List Sp) (i k : Nat) (q : Nat × Sp) : AState := mkS [(0, .sl (sps l)), (3, .own 2), (4, .v (.int .i64 i)), (5, .v (.int .i64 k)), (6, .v (.int .i64 q.1))] [(2, .row (sps (L.take q.1 ++ q.2 :: L.drop q.1)) 2 30)]
def rmS (L M : List Sp) (i : Nat) : AState := mkS [(3, .own 2), (7, .own 3), (8, .v (.int .i64 i))] [(2, .row (sps L) 2 30), (3, .row (sps M) 2 30)]
end Go.Proofs
end
section
set_option linter.unusedVariables false
set_option linter.unusedSimpArgs false
namespace Go.Proofs
open Go Go.Ab
set_option maxHeartbeats 4000000
set_option maxRecDepth 100000
set_option linter.unusedSimpArgs false
set_option linter.unusedVariables false
attribute [local irreducible] Awp aops aopsL Go.Ab.Pure PureOwn
def InR (l : List Sp) : Prop := ∀ s ∈ l, -9223372036854775808 ≤ s.a ∧ s.b ≤ 9223372036854775807
theorem canon_len (l : List Sp) : (canon l).length ≤ l.length := by
  have h1 := merge_len (rinL l)
  rw [rin_canon] at h1
  exact Nat.le_trans h1 (rin_len l)
def maxI : Int := 9223372036854775807
def totalL (l : List Sp) : Int := if 9223372036854775807 < lenS (canon l) then 9223372036854775807 else lenS (canon l)
theorem get_mem {l : List Sp} {i : Nat} (h : i < l.length) : l.getD i zeroSp ∈ l := by
  rw [List.getD_eq_getElem?_getD, List.getElem?_eq_getElem h]
  exact List.getElem_mem h
def rtS (c : List Sp) (i : Nat) : AState := mkS [(3, .v (.int .u64 (lenS (c.take i)))), (4, .own 2), (5, .v (.int .i64 i))] [(2, .row (sps c) 2 30)]
theorem sps_dry (l : List Sp) : ∀ y ∈ sps l, ∀ c ∈ y, Dry c := by
  intro y hy c hc
  obtain ⟨s, _, rfl⟩ := List.mem_map.1 hy
  simp only [Sp.cells, List.mem_cons, List.not_mem_nil, or_false] at hc
  rcases hc with rfl | rfl <;> exact .v _
def riS (a b L : List Sp) (i : Nat) : AState := mkS [(0, .sl (sps a)), (1, .sl (sps b)), (5, .own 2), (6, .v (.int .i64 i))] [(2, .row (sps L) 2 30)]
def rijS (a b L : List Sp) (i j : Nat) : AState := mkS [(0, .sl (sps a)), (1, .sl (sps b)), (5, .own 2), (6, .v (.int .i64 i)), (7, .v (.int .i64 j))] [(2, .row (sps L) 2 30)]
def meet (s t : Sp) : Sp := ⟨max s.a t.a, min s.b t.b⟩
theorem inter_len (a b : List Sp) : (interL a b).length = a.length * b.length := by
  unfold interL
  induction a with
  | nil => simp
  | cons s a ih => simp only [List.flatMap_cons, List.length_append, List.length_map, ih, List.length_cons]; rw [Nat.add_mul]; omega
end Go.Proofs
end
section
set_option linter.unusedVariables false
set_option linter.unusedSimpArgs false
namespace Go.Proofs
open Go Go.Ab
set_option maxHeartbeats 4000000
set_option maxRecDepth 100000
set_option linter.unusedSimpArgs false
set_option linter.unusedVariables false
attribute [local irreducible] Awp aops aopsL Go.Ab.Pure PureOwn
def mkL (a b : List Sp) (k : Nat) : List Sp := (b.take k).foldl stepC (canon a)
def mnS (b L : List Sp) (k : Nat) : AState := mkS [(1, .sl (sps b)), (5, .own 2), (6, .v (.int .i64 k))] [(2, .row (sps L) 2 30)]
def mniS (b L N : List Sp) (k i : Nat) : AState := mkS [(1, .sl (sps b)), (5, .own 2), (6, .v (.int .i64 k)), (7, .own 3), (8, .v (.int .i64 i))] [(2, .row (sps L) 2 30), (3, .row (sps N) 2 30)]
end Go.Proofs
end
section
set_option linter.unusedVariables false
set_option linter.unusedSimpArgs false
namespace Go.Proofs
open Go Go.Ab Go.Shelf Go.RowKit Go.Lib Go.Sort
set_option maxRecDepth 100000
set_option linter.unusedSimpArgs false
set_option linter.unusedVariables false
theorem ltA (x y : Int × Int) : ltOf (fun x y : Int × Int => Lib.compareInt x.1 y.1) x y = decide (x.1 < y.1) := by
  unfold ltOf Lib.compareInt
  by_cases h1 : x.1 < y.1
  · simp [h1]
  · by_cases h2 : y.1 < x.1 <;> simp [h1, h2]
theorem swoA : SWO (ltOf fun x y : Int × Int => Lib.compareInt x.1 y.1) where
  irrefl x := by rw [ltA]; simp
  trans x y z h1 h2 := by rw [ltA] at *; simp at *; omega
  ntrans x y z h1 h2 := by rw [ltA] at *; simp at *; omega
set_option maxHeartbeats 1000000 in
theorem closure36 (x y : Int × Int) (W : World) : Calls Tryz.prog 104 #[.agg #[.int .i64 x.1, .int .i64 x.2], .agg #[.int .i64 y.1, .int .i64 y.2]] W fun e w' => e = .returned (.int .i64 (Lib.compareInt x.1 y.1)) ∧ ∃ q os', w' = grow (W.drewN q) os' := by
  have hcon := fun W' => AnyG.cmp_Compare_int Tryz.cmpInt x.1 y.1 W'
  change ∀ W', Calls Tryz.prog 105 _ _ _ at hcon
  generalize Lib.compareInt x.1 y.1 = r at hcon ⊢
  go_enter Tryz.func104, Tryz.ntmps104
  go_wp2_with (go_at_call 105; refine (hcon _).mono ?_; rintro e w' ⟨rfl, rfl⟩)
  go_ret
  exact ⟨rfl, 0, _, by rw [alloc_eq_grow, alloc_eq_grow, grow_grow]; rfl⟩
def toP (s : Sp) : Int × Int := (s.a, s.b)
def ofP (p : Int × Int) : Sp := ⟨p.1, p.2⟩
theorem prs_to (l : List Sp) : prs (l.map toP) = sps l := by simp [prs, sps, toP, Sp.cells]
theorem prs_of (l : List (Int × Int)) : prs l = sps (l.map ofP) := by simp [prs, sps, ofP, Sp.cells]
theorem sort35_cc (l t : List Sp) (hl : l.length < 1000000) : ∃ m : List Sp, (∀ x, x ∈ m ↔ x ∈ l) ∧ m.length = l.length ∧ m.Pairwise (fun x y => x.a ≤ y.a) ∧
    ∀ b nm, CallC Tryz.prog 103 [.pre b m.length, .fn 104 []] [(b, .row (sps (l ++ t)) 2 30)] nm (.tup []) [(b, some (.row (sps (m ++ t)) 2 30))] := by
  have hs := sortP_spec (fun x y => Lib.compareInt x.1 y.1) swoA (l.map toP)
  have hlen := sortP_len (fun x y => Lib.compareInt x.1 y.1) swoA (l.map toP)
  have key := fun b nm => sortF_cc Tryz.sortIv (fun w => Tryz.isAgg30 w) (fun w => Tryz.sizeOf30 w) ⟨_, Tryz.func103, by kernel_rfl, by kernel_rfl⟩ (fun x y => Lib.compareInt x.1 y.1) swoA 104 (enters_of Tryz.func104 (by kernel_rfl) rfl) closure36 (l.map toP) (t.map toP) b nm 30 (by simpa using hl)
  refine ⟨(sortP (fun x y => Lib.compareInt x.1 y.1) (l.map toP)).map ofP, fun x => ?_, by simpa using hlen, ?_, fun b nm => ?_⟩
  · rw [List.mem_map]
    constructor
    · rintro ⟨p, hp, rfl⟩
      have := hs.1.mem_iff.1 hp
      obtain ⟨s, hs', rfl⟩ := List.mem_map.1 this
      exact hs'
    · intro hx
      exact ⟨toP x, hs.1.mem_iff.2 (List.mem_map.2 ⟨x, hx, rfl⟩), rfl⟩
  · rw [List.pairwise_map]
    refine hs.2.imp fun {x y} h => ?_
    rw [ltA] at h
    have := of_decide_eq_false h
    show x.1 ≤ y.1
    omega
  · have h := key b nm
    rw [prs_append, prs_to, prs_to, prs_append, prs_of, prs_to] at h
    rw [sps_append l t, sps_append _ t]
    have e1 : ((sortP (fun x y => Lib.compareInt x.1 y.1) (l.map toP)).map ofP).length = (l.map toP).length := by simpa using hlen
    rw [e1]
    exact h
theorem clone33 (l : List Sp) (hl : l.length < 1000000) : PureOwn Tryz.prog 101 [.sl (sps l)] (sps l) 2 30 := by
  have h := clone_of Tryz.cloneSp ⟨_, Tryz.func101, by kernel_rfl, by kernel_rfl⟩ _ _ 2 16 (show Tryz.prog.info? (Tryz.cloneSp_ren.t 23) = some _ from rfl) rfl rfl rfl rfl (by omega) (fun w => Tryz.sizeOf30 w) (sps l) (sps_one l) (by rw [sps_len]; omega)
  exact h
end Go.Proofs
end
section
set_option linter.unusedVariables false
set_option linter.unusedSimpArgs false
namespace Go.Proofs
open Go Go.Ab
set_option maxRecDepth 100000
theorem grow52 (n : Nat) (hn : n < 1000000) (nm : Nat) : CallC Tryz.prog 106 [.nils, .v (.int .i64 n)] [] nm (.own nm) [(nm, some (.row [] 2 30))] := by
  obtain ⟨i0, hi⟩ : ∃ i0, Tryz.prog.info? 30 = some i0 := ⟨_, rfl⟩
  have h := grow_cc Tryz.growSp ⟨_, Tryz.func106, by kernel_rfl, by kernel_rfl⟩ _ _ (show Tryz.prog.info? (Tryz.growSp_ren.t 25) = some _ from rfl) rfl (by decide) rfl (by decide) n hn nm
  exact h
end Go.Proofs
end
section
set_option linter.unusedVariables false
set_option linter.unusedSimpArgs false
namespace Go.Proofs
open Go Go.Ab
set_option maxHeartbeats 4000000
set_option maxRecDepth 100000
set_option linter.unusedSimpArgs false
set_option linter.unusedVariables false
attribute [local irreducible] Awp aops aopsL Go.Ab.Pure PureOwn
def nmS (m T M : List Sp) (i : Nat) : AState := mkS [(4, .own 3), (13, .pre 2 m.length), (14, .v (.int .i64 m.length)), (15, .v (.int .i64 i))] [(2, .row (sps (m ++ T)) 2 30), (3, .row (sps M) 2 30)]
theorem sps_rep (n : Nat) : sps (List.replicate n zeroSp) = List.replicate n zrow := by simp [sps, zeroSp, Sp.cells, zrow]
theorem normal_ok (l : List Sp) (hl : l.length < 100000) : PureOwn Tryz.prog 86 [.sl (sps l)] (sps (canon l)) 2 30 := by
  have c0 := clone33 l (by omega)
  have hkl : (l.filter fullB).length ≤ l.length := List.length_filter_le _ _
  have c1 := fun nm h => del_cc l nm hl h
  have hdr : delRow l = sps (l.filter fullB ++ List.replicate (l.length - (l.filter fullB).length) zeroSp) := by
    unfold delRow; rw [sps_append, sps_rep]
  rw [hdr] at c1
  obtain ⟨m, hm, hml, hmp, c2⟩ := sort35_cc (l.filter fullB) (List.replicate (l.length - (l.filter fullB).length) zeroSp) (by omega)
  have hcan := merge_canon hmp hm
  rw [← hcan]
  generalize List.replicate (l.length - (l.filter fullB).length) zeroSp = T at *
  rw [← hml] at c1
  have hmb : m.length < 100000 := by omega
  generalize l.filter fullB = F at *
  clear hdr hkl hm hml hmp hcan
  refine fn_own Tryz.F86 (Nat.le_of_ble_eq_true rfl) ?_; unfold Tryz.ac86
  repeat' (first
    | (apply Awp.sreg; (case hn => (simp only [List.length_cons, List.length_nil, Nat.reduceAdd] <;> rfl)))
    | (refine st_nil ?_)
    | (apply st_a; (case hc => rfl); (case he => (simp only [go_sem, *] <;> rfl)); (case hu => (simp only [updL_nil, updL_cons] <;> rfl)); (case hp => first | trivial))
    | (apply st_co; (case hc => (simp only [go_sem, *] <;> rfl)); (case hl => (simp only [go_sem, *] <;> rfl)); (case hn => (simp only [go_sem, *] <;> rfl)); (case hp => first | exact c0 | (have hXz := c0; simp only [go_sem, *] at hXz; exact hXz)))
    | (apply st_cc; (case hc => (simp only [go_sem, *] <;> rfl)); (case hcc => exact (c1 _ (by omega))); (case hh => (first | (simp only [List.mem_singleton, forall_eq]; first | (simp only [go_sem, *] <;> rfl) | (simp only [go_sem, *]; simp [ints])) | (intro p hp; cases hp; done) | (intro p hp; simp only [List.mem_cons, List.not_mem_nil, or_false] at hp; rcases hp with rfl | rfl | rfl | rfl | rfl | rfl | rfl <;> (simp only [go_sem, *] <;> rfl)) | (intro p hp; simp only [List.mem_cons, List.not_mem_nil, or_false] at hp; rcases hp with rfl | rfl | rfl | rfl <;> (simp only [go_sem, *] <;> rfl)))); (case hu => (first | (simp; done) | decide)); (case hm => (first | decide | (simp; done))); (case hw => (simp only [updL_nil, updL_cons] <;> rfl)))
    | (apply st_cc; (case hc => (simp only [go_sem, *] <;> rfl)); (case hcc => exact (c2 _ _)); (case hh => (first | (simp only [List.mem_singleton, forall_eq]; first | (simp only [go_sem, *] <;> rfl) | (simp only [go_sem, *]; simp [ints])) | (intro p hp; cases hp; done) | (intro p hp; simp only [List.mem_cons, List.not_mem_nil, or_false] at hp; rcases hp with rfl | rfl | rfl | rfl | rfl | rfl | rfl <;> (simp only [go_sem, *] <;> rfl)) | (intro p hp; simp only [List.mem_cons, List.not_mem_nil, or_false] at hp; rcases hp with rfl | rfl | rfl | rfl <;> (simp only [go_sem, *] <;> rfl)))); (case hu => (first | (simp; done) | decide)); (case hm => (first | decide | (simp; done))); (case hw => (simp only [updL_nil, updL_cons] <;> rfl)))
    | refine Awp.block ?_
    | refine Awp.seq ?_)
  clear c0 c1 c2
  refine Awp.loop (fun i : Nat => i ≤ m.length) 200 (fun i => nmS m T (mergeS (m.take i)) i) (fun i => m.length - i) 0 (by omega) ?_ ?_
  · refine Ghost.trans (Ghost.name 4 2 30 rfl (by decide)) ?_
    have e1 : mergeS (m.take 0) = [] := rfl
    rw [e1]
    unfold nmS
    (apply Ghost.mk [(3, 11)] []; (case hdead => rfl); (case hinj => rfl); (case hV => (simp only [go_sem, *]) <;> (repeat' (first | refine And.intro ?_ ?_ | exact View.int (by first | rfl | omega | (simp; done) | (rw [wrap_i64] <;> (try simp only [Int.natCast_add]) <;> omega) | (simp [*]; done)) | exact .own rfl (by decide) | exact .pre rfl (by decide)))); (case hB => (simp only [go_sem, *]) <;> (repeat' (first | refine And.intro ?_ ?_ | exact ⟨_, rfl, .rowE (by first | rfl | omega | (simp; done) | (rw [wrap_i64] <;> (try simp only [Int.natCast_add]) <;> omega) | (simp [*]; done))⟩))))
  · intro i hi
    have hmT : (sps (m ++ T)).length = m.length + T.length := by rw [sps_len]; simp
    by_cases hlt : i < m.length
    · have hlt' : (i : Int) < m.length := by omega
      have hat : (sps (m ++ T)).getD i [] = (m.getD i zeroSp).cells := by
        rw [sps_at _ _ (by simp; omega)]
        congr 1
        simp only [List.getD_eq_getElem?_getD]
        rw [List.getElem?_append_left hlt]
      have hz : ((m.getD i zeroSp).cells).length = 2 := rfl
      have hst := merge_stepL m i hlt
      have hMl : (mergeS (m.take i)).length ≤ i := by have := merge_len (m.take i); simp at this; omega
      generalize mergeS (m.take i) = M at *
      generalize m.getD i zeroSp = s at *
      have esn := sps_snoc M s
      have eon := sps_one M
      have hMn := sps_len M
      by_cases hM : M.length = 0
      · have hn : decide ((0 : Int) < (M.length : Int)) = false := decide_eq_false (by omega)
        unfold stepM at hst
        rw [if_neg (by omega)] at hst
        have hst' : Kept (mergeS (m.take (i + 1)) = M ++ [s]) := hst
        clear hst hM
        unfold nmS
        repeat' (first
    | (apply Awp.sreg; (case hn => (simp only [List.length_cons, List.length_nil, Nat.reduceAdd] <;> rfl)))
    | (apply Awp.sdraw; (case hn => (simp only [List.length_cons, List.length_nil, Nat.reduceAdd] <;> rfl)))
    | (refine st_nil ?_)
    | (apply st_a; (case hc => rfl); (case he => (simp only [go_sem, *] <;> rfl)); (case hu => (simp only [updL_nil, updL_cons] <;> rfl)); (case hp => first | trivial | omega | (simp; done) | (simp; omega)))
    | (apply Awp.reg; (case hn => (simp only [List.length_cons, List.length_nil, Nat.reduceAdd] <;> rfl)))
    | (refine Awp.skip ?_; try simp only [go_sem, *])
    | refine Awp.block ?_
    | (apply Awp.cond; (case hc => (simp only [go_sem, *] <;> rfl)); all_goals (intro hg; (try simp only [Bool.not_true, Bool.not_false, reduceCtorEq] at hg)))
    | refine Awp.seq ?_
    | (apply sl_a; (case hc => rfl); (case he => (simp only [go_sem, *] <;> rfl)); (case hu => (simp only [updL_nil, updL_cons] <;> rfl)); (case hl => (simp only [List.map_cons, List.map_nil] <;> rfl)); (case hp => first | trivial))
    | (apply sl_gn; (case hv => (simp only [go_sem, *] <;> rfl)); (case hbw => rfl))
    | (refine sl_nil (And.intro (by first | exact drawOk_of (by decide +kernel) | (simp only [List.map_cons, List.map_nil]; exact drawOk_of (by decide +kernel)) | decide) ?_)))
        refine ⟨i + 1, by omega, by omega, ?_⟩
        rw [hst'.out]
        (apply Ghost.mk [(3, 224)] []; (case hdead => rfl); (case hinj => rfl); (case hV => (simp only [go_sem, *]) <;> (repeat' (first | refine And.intro ?_ ?_ | exact View.int (by first | rfl | omega | (simp; done) | (rw [wrap_i64] <;> (try simp only [Int.natCast_add]) <;> omega) | (simp [*]; done)) | exact .own rfl (by decide) | exact .pre rfl (by decide)))); (case hB => (simp only [go_sem, *]) <;> (repeat' (first | refine And.intro ?_ ?_ | exact ⟨_, rfl, .rowE (by first | rfl | omega | (simp; done) | (rw [wrap_i64] <;> (try simp only [Int.natCast_add]) <;> omega) | (simp [*]; done))⟩))))
      · obtain ⟨n, hn⟩ : ∃ n : Nat, M.length = n + 1 := ⟨M.length - 1, by omega⟩
        have hw2 : IntKind.i64.wrap ((M.length : Int) - 1) = (n : Int) := by rw [wrap_i64 (by omega) (by omega)]; omega
        have hn0 : decide ((0 : Int) < (M.length : Int)) = true := decide_eq_true (by omega)
        have hnM : n < M.length := by omega
        have hnM' : (n : Int) < M.length := by omega
        have hatn := sps_at M n hnM
        have hzn : ((M.getD n zeroSp).cells).length = 2 := rfl
        unfold stepM at hst
        rw [show M.length - 1 = n by omega] at hst
        by_cases hc : s.a ≤ (M.getD n zeroSp).b
        · rw [if_pos ⟨by omega, hc⟩] at hst
          have hc' : decide (s.a ≤ (M.getD n zeroSp).b) = true := decide_eq_true hc
          have hmx : (if (M.getD n zeroSp).b < s.b then s.b else (M.getD n zeroSp).b) = max (M.getD n zeroSp).b s.b := by
            rw [Int.max_def]; split <;> split <;> omega
          have hfin : (sps M).set n [.v (.int .i64 (M.getD n zeroSp).a), .v (.int .i64 (max (M.getD n zeroSp).b s.b))] = sps (mergeS (m.take (i + 1))) := by
            rw [hst]; exact sps_set M n ⟨(M.getD n zeroSp).a, max (M.getD n zeroSp).b s.b⟩
          generalize M.getD n zeroSp = y at *
          clear hc hn hst hM
          unfold nmS
          repeat' (first
    | (apply Awp.sreg; (case hn => (simp only [List.length_cons, List.length_nil, Nat.reduceAdd] <;> rfl)))
    | (apply Awp.sdraw; (case hn => (simp only [List.length_cons, List.length_nil, Nat.reduceAdd] <;> rfl)))
    | (refine st_nil ?_)
    | (apply st_a; (case hc => rfl); (case he => (simp only [go_sem, *] <;> rfl)); (case hu => (simp only [updL_nil, updL_cons] <;> rfl)); (case hp => first | trivial | omega))
    | (apply Awp.reg; (case hn => (simp only [List.length_cons, List.length_nil, Nat.reduceAdd] <;> rfl)))
    | (refine Awp.skip ?_; try simp only [go_sem, *])
    | refine Awp.block ?_
    | (apply Awp.cond; (case hc => (simp only [go_sem, *] <;> rfl)); all_goals (intro hg; (try simp only [Bool.not_true, Bool.not_false, reduceCtorEq] at hg)))
    | refine Awp.seq ?_
    | (refine Awp.draw ?_)
    | (apply sl_a; (case hc => rfl); (case he => (simp only [go_sem, *] <;> rfl)); (case hu => (simp only [updL_nil, updL_cons] <;> rfl)); (case hl => (simp only [List.map_cons, List.map_nil] <;> rfl)); (case hp => first | trivial | omega | (simp; done)))
    | (apply sl_ga; (case hb => rfl); (case hv => (simp only [go_sem, *] <;> rfl)); (case he => (simp only [go_sem, *] <;> rfl)); (case hu => (simp only [updL_nil, updL_cons] <;> rfl)); (case hl => (simp only [List.map_cons, List.map_nil] <;> rfl)); (case hp => first | trivial | omega))
    | (refine sl_nil (And.intro (by first | exact drawOk_of (by decide +kernel) | (simp only [List.map_cons, List.map_nil]; exact drawOk_of (by decide +kernel)) | decide) ?_)))
          refine ⟨i + 1, by omega, by omega, ?_⟩
          (apply Ghost.mk [] []; (case hdead => rfl); (case hinj => rfl); (case hV => (simp only [go_sem, *]) <;> (repeat' (first | refine And.intro ?_ ?_ | exact View.int (by first | rfl | exact hfin | omega | (simp; done) | (rw [wrap_i64] <;> (try simp only [Int.natCast_add]) <;> omega) | (simp [*]; done)) | exact .own rfl (by decide) | exact .pre rfl (by decide)))); (case hB => (simp only [go_sem, *]) <;> (repeat' (first | refine And.intro ?_ ?_ | exact ⟨_, rfl, .rowE (by first | rfl | exact hfin | omega | (simp; done) | (rw [wrap_i64] <;> (try simp only [Int.natCast_add]) <;> omega) | (simp [*]; done))⟩))))
        · rw [if_neg (fun h => hc h.2)] at hst
          have hst' : Kept (mergeS (m.take (i + 1)) = M ++ [s]) := hst
          have hc' : decide (s.a ≤ (M.getD n zeroSp).b) = false := decide_eq_false hc
          generalize M.getD n zeroSp = y at *
          clear hc hn hM hst
          unfold nmS
          repeat' (first
    | (apply Awp.sreg; (case hn => (simp only [List.length_cons, List.length_nil, Nat.reduceAdd] <;> rfl)))
    | (apply Awp.sdraw; (case hn => (simp only [List.length_cons, List.length_nil, Nat.reduceAdd] <;> rfl)))
    | (refine st_nil ?_)
    | (apply st_a; (case hc => rfl); (case he => (simp only [go_sem, *] <;> rfl)); (case hu => (simp only [updL_nil, updL_cons] <;> rfl)); (case hp => first | trivial | omega | (simp; done) | (simp; omega)))
    | (apply Awp.reg; (case hn => (simp only [List.length_cons, List.length_nil, Nat.reduceAdd] <;> rfl)))
    | (refine Awp.skip ?_; try simp only [go_sem, *])
    | refine Awp.block ?_
    | (apply Awp.cond; (case hc => (simp only [go_sem, *] <;> rfl)); all_goals (intro hg; (try simp only [Bool.not_true, Bool.not_false, reduceCtorEq] at hg)))
    | refine Awp.seq ?_
    | (apply sl_a; (case hc => rfl); (case he => (simp only [go_sem, *] <;> rfl)); (case hu => (simp only [updL_nil, updL_cons] <;> rfl)); (case hl => (simp only [List.map_cons, List.map_nil] <;> rfl)); (case hp => first | trivial))
    | (apply sl_ga; (case hb => rfl); (case hv => (simp only [go_sem, *] <;> rfl)); (case he => (simp only [go_sem, *] <;> rfl)); (case hu => (simp only [updL_nil, updL_cons] <;> rfl)); (case hl => (simp only [List.map_cons, List.map_nil] <;> rfl)); (case hp => first | trivial | omega))
    | (refine sl_nil (And.intro (by first | exact drawOk_of (by decide +kernel) | (simp only [List.map_cons, List.map_nil]; exact drawOk_of (by decide +kernel)) | decide) ?_)))
          refine ⟨i + 1, by omega, by omega, ?_⟩
          rw [hst'.out]
          (apply Ghost.mk [(3, 224)] []; (case hdead => rfl); (case hinj => rfl); (case hV => (simp only [go_sem, *]) <;> (repeat' (first | refine And.intro ?_ ?_ | exact View.int (by first | rfl | omega | (simp; done) | (rw [wrap_i64] <;> (try simp only [Int.natCast_add]) <;> omega) | (simp [*]; done)) | exact .own rfl (by decide) | exact .pre rfl (by decide)))); (case hB => (simp only [go_sem, *]) <;> (repeat' (first | refine And.intro ?_ ?_ | exact ⟨_, rfl, .rowE (by first | rfl | omega | (simp; done) | (rw [wrap_i64] <;> (try simp only [Int.natCast_add]) <;> omega) | (simp [*]; done))⟩))))
    · have hlt' : ¬ (i : Int) < m.length := by omega
      have e1 : m.take i = m := List.take_of_length_le (by omega)
      rw [e1]
      unfold nmS
      repeat' (first
    | (apply Awp.sreg; (case hn => (simp only [List.length_cons, List.length_nil, Nat.reduceAdd] <;> rfl)))
    | (refine st_nil ?_)
    | (apply st_a; (case hc => rfl); (case he => (simp only [go_sem, *] <;> rfl)); (case hu => (simp only [updL_nil, updL_cons] <;> rfl)); (case hp => first | trivial))
    | (refine Awp.ret ?_; try simp only [go_sem, *])
    | (refine Awp.exit ?_; try simp only [go_sem, *])
    | (apply Awp.cond; (case hc => (simp only [go_sem, *] <;> rfl)); all_goals (intro hg; (try simp only [Bool.not_true, Bool.not_false, reduceCtorEq] at hg)))
    | refine Awp.seq ?_)
      exact ⟨_, rfl, rfl⟩
end Go.Proofs
end
section
set_option linter.unusedVariables false
set_option linter.unusedSimpArgs false
namespace Go.Proofs
open Go Go.Ab
set_option maxHeartbeats 4000000
set_option maxRecDepth 100000
set_option linter.unusedSimpArgs false
set_option linter.unusedVariables false
attribute [local irreducible] Awp aops aopsL Go.Ab.Pure PureOwn
def lsr (ls : List (List Sp)) : List (List AV) := ls.map fun l => [AV.sl (sps l)]
theorem lsr_len (ls : List (List Sp)) : (lsr ls).length = ls.length := by simp [lsr]
theorem lsr_at (ls : List (List Sp)) (i : Nat) (h : i < ls.length) : (lsr ls).getD i [] = [.sl (sps (ls.getD i []))] := by
  simp [lsr, List.getD_eq_getElem?_getD, h]
theorem flat_step (ls : List (List Sp)) (i : Nat) (h : i < ls.length) : (ls.take (i + 1)).flatten = (ls.take i).flatten ++ ls.getD i [] := by
  rw [List.take_add_one, List.getElem?_eq_getElem h, List.flatten_append]
  simp [List.getD_eq_getElem?_getD, h]
theorem flat_le (ls : List (List Sp)) (i : Nat) : (ls.take i).flatten.length ≤ ls.flatten.length := by
  have e : ls.flatten = (ls.take i).flatten ++ (ls.drop i).flatten := by rw [← List.flatten_append, List.take_append_drop]
  rw [e, List.length_append]; omega
def c1S (ls : List (List Sp)) (n : Nat) (i : Nat) : AState := mkS [(0, .sl (lsr ls)), (3, .v (.int .i64 n)), (9, .sl (lsr ls)), (10, .v (.int .i64 ls.length)), (11, .v (.int .i64 i))] []
def c2S (ls : List (List Sp)) (R : List Sp) (i : Nat) : AState := mkS [(6, .own 2), (25, .sl (lsr ls)), (26, .v (.int .i64 ls.length)), (27, .v (.int .i64 i))] [(2, .row (sps R) 2 30)]
theorem concat_ok (ls : List (List Sp)) (hn : ls.length < 100) (hl : ls.flatten.length < 50000) : PureOwn Tryz.prog 87 [.sl (lsr ls)] (sps ls.flatten) 2 30 := by
  have hln := lsr_len ls
  refine fn_own Tryz.F87 (Nat.le_of_ble_eq_true rfl) ?_; unfold Tryz.ac87
  repeat' (first
    | (apply Awp.sreg; (case hn => (simp only [List.length_cons, List.length_nil, Nat.reduceAdd] <;> rfl)))
    | (refine st_nil ?_)
    | (apply st_a; (case hc => rfl); (case he => (simp only [go_sem, *] <;> rfl)); (case hu => (simp only [updL_nil, updL_cons] <;> rfl)); (case hp => first | trivial))
    | refine Awp.block ?_
    | refine Awp.seq ?_)
  refine Awp.loop (fun i : Nat => i ≤ ls.length) 100 (fun i => c1S ls (ls.take i).flatten.length i) (fun i => ls.length - i) 0 (by omega) ?_ ?_
  · have e1 : (ls.take 0).flatten.length = 0 := by simp
    rw [e1]
    unfold c1S
    (apply Ghost.mk [] []; (case hdead => rfl); (case hinj => rfl); (case hV => (simp only [go_sem, *]) <;> (repeat' (first | refine And.intro ?_ ?_ | exact View.int (by first | rfl | omega | (simp; done) | (rw [wrap_i64] <;> (try simp only [Int.natCast_add]) <;> omega) | (simp [*]; done))))); (case hB => (simp only [go_sem, *]) <;> (repeat' (first | skip; done))))
  · intro i hi
    by_cases hlt : i < ls.length
    · have hlt' : (i : Int) < ls.length := by omega
      have hat := lsr_at ls i hlt
      have hst := flat_step ls i hlt
      have h1 := flat_le ls (i + 1)
      rw [hst, List.length_append] at h1
      obtain ⟨l, hle⟩ : ∃ l, ls.getD i [] = l := ⟨_, rfl⟩
      rw [hle] at hat hst h1
      have hst' : Kept ((ls.take (i + 1)).flatten.length = (ls.take i).flatten.length + l.length) := by unfold Kept; rw [hst, List.length_append]
      clear hst hle
      have hsl := sps_len l
      generalize (ls.take i).flatten.length = N at *
      have hw : IntKind.i64.wrap ((N : Int) + l.length) = ((N + l.length : Nat) : Int) := by rw [wrap_i64 (by omega) (by omega)]; simp
      have hng : decide (((N + l.length : Nat) : Int) < 0) = false := decide_eq_false (by omega)
      unfold c1S
      repeat' (first
    | (apply Awp.sreg; (case hn => (simp only [List.length_cons, List.length_nil, Nat.reduceAdd] <;> rfl)))
    | (refine st_nil ?_)
    | (apply st_a; (case hc => rfl); (case he => (simp only [go_sem, *] <;> rfl)); (case hu => (simp only [updL_nil, updL_cons] <;> rfl)); (case hp => first | trivial | omega))
    | (apply Awp.reg; (case hn => (simp only [List.length_cons, List.length_nil, Nat.reduceAdd] <;> rfl)))
    | (refine Awp.skip ?_; try simp only [go_sem, *])
    | refine Awp.block ?_
    | (apply Awp.cond; (case hc => (simp only [go_sem, *] <;> rfl)); all_goals (intro hg; (try simp only [Bool.not_true, Bool.not_false, reduceCtorEq] at hg)))
    | refine Awp.seq ?_)
      refine ⟨i + 1, by omega, by omega, ?_⟩
      rw [hst'.out]
      (apply Ghost.mk [] []; (case hdead => rfl); (case hinj => rfl); (case hV => (simp only [go_sem, *]) <;> (repeat' (first | exact View.int (by first | rfl | omega | (simp; done) | (rw [wrap_i64] <;> (try simp only [Int.natCast_add]) <;> omega) | (simp [*]; done))))); (case hB => (simp only [go_sem, *]) <;> (repeat' (first | skip; done))))
    · have hlt' : ¬ (i : Int) < ls.length := by omega
      have e1 : ls.take i = ls := List.take_of_length_le (by omega)
      rw [e1]
      have cg := fun nm => grow52 ls.flatten.length (by omega) nm
      have hge : Kept (ls.flatten.length < 50000) := hl
      obtain ⟨N, hN⟩ : ∃ N, ls.flatten.length = N := ⟨_, rfl⟩
      rw [hN] at cg ⊢
      clear hN hl e1
      unfold c1S
      repeat' (first
    | (apply Awp.sreg; (case hn => (simp only [List.length_cons, List.length_nil, Nat.reduceAdd] <;> rfl)))
    | (refine st_nil ?_)
    | (apply st_a; (case hc => rfl); (case he => (simp only [go_sem, *] <;> rfl)); (case hu => (simp only [updL_nil, updL_cons] <;> rfl)); (case hp => first | trivial))
    | (apply st_cc; (case hc => (simp only [go_sem, *] <;> rfl)); (case hcc => exact (cg _)); (case hh => (first | (simp only [List.mem_singleton, forall_eq]; first | (simp only [go_sem, *] <;> rfl) | (simp only [go_sem, *]; simp [ints])) | (intro p hp; cases hp; done) | (intro p hp; simp only [List.mem_cons, List.not_mem_nil, or_false] at hp; rcases hp with rfl | rfl | rfl | rfl | rfl | rfl | rfl <;> (simp only [go_sem, *] <;> rfl)) | (intro p hp; simp only [List.mem_cons, List.not_mem_nil, or_false] at hp; rcases hp with rfl | rfl | rfl | rfl <;> (simp only [go_sem, *] <;> rfl)))); (case hu => (first | (simp; done) | decide)); (case hm => (first | decide | (simp; done))); (case hw => (simp only [updL_nil, updL_cons] <;> rfl)))
    | (refine Awp.exit ?_; try simp only [go_sem, *])
    | refine Awp.block ?_
    | (apply Awp.cond; (case hc => (simp only [go_sem, *] <;> rfl)); all_goals (intro hg; (try simp only [Bool.not_true, Bool.not_false, reduceCtorEq] at hg)))
    | refine Awp.seq ?_)
      clear cg hlt hlt'
      refine Awp.loop (fun i : Nat => i ≤ ls.length) 200 (fun i => c2S ls (ls.take i).flatten i) (fun i => ls.length - i) 0 (by omega) ?_ ?_
      · have e1 : (ls.take 0).flatten = [] := by simp
        rw [e1]
        unfold c2S
        (apply Ghost.mk [(2, 102)] []; (case hdead => rfl); (case hinj => rfl); (case hV => (simp only [go_sem, *]) <;> (repeat' (first | refine And.intro ?_ ?_ | exact View.int (by first | rfl | omega | (simp; done) | (rw [wrap_i64] <;> (try simp only [Int.natCast_add]) <;> omega) | (simp [*]; done)) | exact .own rfl (by decide)))); (case hB => (simp only [go_sem, *]) <;> (repeat' (first | exact ⟨_, rfl, .rowE (by first | rfl | omega | (simp; done) | (rw [wrap_i64] <;> (try simp only [Int.natCast_add]) <;> omega) | (simp [*]; done))⟩))))
      · intro i hi
        by_cases hlt : i < ls.length
        · have hlt' : (i : Int) < ls.length := by omega
          have hat := lsr_at ls i hlt
          have hst := flat_step ls i hlt
          have h1 := flat_le ls (i + 1)
          have hge' := hge.out
          rw [hst, List.length_append] at h1
          obtain ⟨l, hle⟩ : ∃ l, ls.getD i [] = l := ⟨_, rfl⟩
          rw [hle] at hat hst h1
          have hst' : Kept ((ls.take (i + 1)).flatten = (ls.take i).flatten ++ l) := hst
          have hNb : (ls.take i).flatten.length + l.length < 50000 := by omega
          clear hst hle h1 hge'
          generalize (ls.take i).flatten = R at *
          have hsl := sps_len l
          have hsr := sps_len R
          have hol := sps_one l
          have hap := (sps_append R l).symm
          unfold c2S
          repeat' (first
    | (apply Awp.sreg; (case hn => (simp only [List.length_cons, List.length_nil, Nat.reduceAdd] <;> rfl)))
    | (refine st_nil ?_)
    | (apply st_a; (case hc => rfl); (case he => (simp only [go_sem, *] <;> rfl)); (case hu => (simp only [updL_nil, updL_cons] <;> rfl)); (case hp => first | trivial | omega | ((repeat' (refine And.intro ?_ ?_)) <;> first | trivial | assumption | omega | (simp; done) | (simp; omega) | (simp [*]; done))))
    | (apply Awp.reg; (case hn => (simp only [List.length_cons, List.length_nil, Nat.reduceAdd] <;> rfl)))
    | (refine Awp.skip ?_; try simp only [go_sem, *])
    | refine Awp.block ?_
    | (apply Awp.cond; (case hc => (simp only [go_sem, *] <;> rfl)); all_goals (intro hg; (try simp only [Bool.not_true, Bool.not_false, reduceCtorEq] at hg)))
    | refine Awp.seq ?_)
          refine ⟨i + 1, by omega, by omega, ?_⟩
          rw [hst'.out]
          (apply Ghost.mk [(2, 206)] []; (case hdead => rfl); (case hinj => rfl); (case hV => (simp only [go_sem, *]) <;> (repeat' (first | refine And.intro ?_ ?_ | exact View.int (by first | rfl | omega | (simp; done) | (rw [wrap_i64] <;> (try simp only [Int.natCast_add]) <;> omega) | (simp [*]; done)) | exact .own rfl (by decide)))); (case hB => (simp only [go_sem, *]) <;> (repeat' (first | exact ⟨_, rfl, .rowE (by first | rfl | omega | (simp; done) | (rw [wrap_i64] <;> (try simp only [Int.natCast_add]) <;> omega) | (simp [*]; done))⟩))))
        · have hlt' : ¬ (i : Int) < ls.length := by omega
          have e1 : ls.take i = ls := List.take_of_length_le (by omega)
          rw [e1]
          unfold c2S
          repeat' (first
    | (apply Awp.sreg; (case hn => (simp only [List.length_cons, List.length_nil, Nat.reduceAdd] <;> rfl)))
    | (refine st_nil ?_)
    | (apply st_a; (case hc => rfl); (case he => (simp only [go_sem, *] <;> rfl)); (case hu => (simp only [updL_nil, updL_cons] <;> rfl)); (case hp => first | trivial))
    | (refine Awp.ret ?_; try simp only [go_sem, *])
    | (refine Awp.exit ?_; try simp only [go_sem, *])
    | (apply Awp.cond; (case hc => (simp only [go_sem, *] <;> rfl)); all_goals (intro hg; (try simp only [Bool.not_true, Bool.not_false, reduceCtorEq] at hg)))
    | refine Awp.seq ?_)
          exact ⟨_, rfl, rfl⟩
theorem concat2 (a b : List Sp) (ha : a.length < 20000) (hb : b.length < 20000) : PureOwn Tryz.prog 87 [.sl [[.sl (sps a)], [.sl (sps b)]]] (sps (a ++ b)) 2 30 := by
  have h := concat_ok [a, b] (by simp) (by simp; omega)
  have e : [a, b].flatten = a ++ b := by simp
  rw [e] at h
  exact h
end Go.Proofs
end
section
set_option linter.unusedVariables false
set_option linter.unusedSimpArgs false
namespace Go.Proofs
open Go Go.Ab
set_option maxHeartbeats 4000000
set_option maxRecDepth 100000
set_option linter.unusedSimpArgs false
set_option linter.unusedVariables false
attribute [local irreducible] Awp aops aopsL Go.Ab.Pure PureOwn
def nx (c : List Sp) (p : Int) : Nat := c.findIdx fun s => decide (p < s.b)
theorem nx_le (c : List Sp) (p : Int) : nx c p ≤ c.length := List.findIdx_le_length
theorem nx_lt {c : List Sp} {p : Int} {j : Nat} (h : j < nx c p) : (c.getD j zeroSp).b ≤ p := by
  have hl : j < c.length := Nat.lt_of_lt_of_le h (nx_le c p)
  have h1 := List.not_of_lt_findIdx (p := fun s : Sp => decide (p < s.b)) (xs := c) (show j < c.findIdx (fun s : Sp => decide (p < s.b)) from h)
  have e : c.getD j zeroSp = c[j] := by simp [List.getD_eq_getElem?_getD, hl]
  rw [e]
  simpa using h1
theorem nx_at {c : List Sp} {p : Int} (h : nx c p < c.length) : p < (c.getD (nx c p) zeroSp).b := by
  have h1 := List.findIdx_getElem (xs := c) (p := fun s : Sp => decide (p < s.b)) (w := (show c.findIdx (fun s : Sp => decide (p < s.b)) < c.length from h))
  have e : c.getD (nx c p) zeroSp = c[nx c p] := by simp [List.getD_eq_getElem?_getD, h]
  rw [e]
  exact of_decide_eq_true h1
theorem nx_mono {c : List Sp} {p q : Int} (h : p ≤ q) : nx c p ≤ nx c q := by
  by_cases hq : nx c q < c.length
  · have h1 := nx_at hq
    by_cases hlt : nx c q < nx c p
    · have := nx_lt hlt; omega
    · omega
  · have := nx_le c p; have := nx_le c q; omega
theorem has_nx {c : List Sp} (hc : Canon c) (p : Int) : hasB c p = (decide (nx c p < c.length) && decide ((c.getD (nx c p) zeroSp).a ≤ p)) := by
  rw [Bool.eq_iff_iff, hasB_iff, Bool.and_eq_true, decide_eq_true_eq, decide_eq_true_eq]
  constructor
  · rintro ⟨s, hs, h1, h2⟩
    obtain ⟨j, hj, rfl⟩ := List.getElem_of_mem hs
    have hle : nx c p ≤ j := by
      by_cases h : j < nx c p
      · have := nx_lt h
        rw [List.getD_eq_getElem?_getD, List.getElem?_eq_getElem hj] at this
        simp only [Option.getD_some] at this
        omega
      · omega
    have hlt : nx c p < c.length := by omega
    have h3 := nx_at hlt
    have e : c.getD (nx c p) zeroSp = c[nx c p] := by simp [List.getD_eq_getElem?_getD, hlt]
    rw [e] at h3 ⊢
    refine ⟨hlt, ?_⟩
    rcases Nat.lt_or_ge (nx c p) j with h | h
    · have := List.pairwise_iff_getElem.1 hc.1 (nx c p) j hlt hj h; omega
    · have : nx c p = j := by omega
      simp only [this]; exact h1
  · rintro ⟨h1, h2⟩
    exact ⟨_, get_mem h1, h2, nx_at h1⟩
theorem andC_ok (x y : Bool) : Pure Tryz.prog 59 [.v (.bool x), .v (.bool y)] (.v (.bool (x && y))) := by
  cases x
  · refine fn_pure Tryz.F59 (Nat.le_of_ble_eq_true rfl) ?_; unfold Tryz.ac59
    repeat' (first
    | (apply Awp.sreg; (case hn => (simp only [List.length_cons, List.length_nil, Nat.reduceAdd] <;> rfl)))
    | (refine st_nil ?_)
    | (apply st_a; (case hc => rfl); (case he => (simp only [go_sem, *] <;> rfl)); (case hu => (simp only [updL_nil, updL_cons] <;> rfl)); (case hp => first | trivial))
    | (apply st_m; (case hc => rfl); (case hg => (simp only [go_sem, *] <;> rfl)); (case he => (intro hQz; (try simp only [wantB_t, wantB_f, Bool.and_eq_true, Bool.not_eq_true', Bool.not_true, Bool.not_false, and_true, true_and] at hQz); simp only [go_sem, *] <;> rfl)); (case hp => (intro hQz; (try simp only [wantB_t, wantB_f, Bool.and_eq_true, Bool.not_eq_true', Bool.or_eq_false_iff, decide_eq_true_eq, decide_eq_false_iff_not, beq_iff_eq, beq_eq_false_iff_ne, bne_iff_ne, bne_eq_false_iff_eq, Int.not_lt, Int.not_le, Int.ofNat_lt, Int.ofNat_le] at hQz); first | trivial)))
    | (refine Awp.ret ?_; try simp only [go_sem, *]))
    all_goals repeat' (first | exact Lower.bool (by first | rfl | (simp only [true_and, Bool.true_and, Bool.false_and, Bool.and_true, Bool.and_false, Bool.true_or, Bool.false_or, reduceIte, Bool.false_eq_true, *]; done) | (simp only [true_and, reduceIte, Bool.false_eq_true, *] <;> rfl) | (simp [true_and]; done) | (simp_all [true_and]; done) | omega))
  · refine fn_pure Tryz.F59 (Nat.le_of_ble_eq_true rfl) ?_; unfold Tryz.ac59
    repeat' (first
    | (apply Awp.sreg; (case hn => (simp only [List.length_cons, List.length_nil, Nat.reduceAdd] <;> rfl)))
    | (refine st_nil ?_)
    | (apply st_a; (case hc => rfl); (case he => (simp only [go_sem, *] <;> rfl)); (case hu => (simp only [updL_nil, updL_cons] <;> rfl)); (case hp => first | trivial))
    | (apply st_m; (case hc => rfl); (case hg => (simp only [go_sem, *] <;> rfl)); (case he => (intro hQz; (try simp only [wantB_t, wantB_f, Bool.and_eq_true, Bool.not_eq_true', Bool.not_true, Bool.not_false, and_true, true_and] at hQz); simp only [go_sem, *] <;> rfl)); (case hp => (intro hQz; (try simp only [wantB_t, wantB_f, Bool.and_eq_true, Bool.not_eq_true', Bool.or_eq_false_iff, decide_eq_true_eq, decide_eq_false_iff_not, beq_iff_eq, beq_eq_false_iff_ne, bne_iff_ne, bne_eq_false_iff_eq, Int.not_lt, Int.not_le, Int.ofNat_lt, Int.ofNat_le] at hQz); first | trivial)))
    | (refine Awp.ret ?_; try simp only [go_sem, *]))
    all_goals repeat' (first | exact Lower.bool (by first | rfl | (simp only [true_and, Bool.true_and, Bool.false_and, Bool.and_true, Bool.and_false, Bool.true_or, Bool.false_or, reduceIte, Bool.false_eq_true, *]; done) | (simp only [true_and, reduceIte, Bool.false_eq_true, *] <;> rfl) | (simp [true_and]; done) | (simp_all [true_and]; done) | omega))
theorem diffC_ok (x y : Bool) : Pure Tryz.prog 58 [.v (.bool x), .v (.bool y)] (.v (.bool (x && !y))) := by
  cases x
  · refine fn_pure Tryz.F58 (Nat.le_of_ble_eq_true rfl) ?_; unfold Tryz.ac58
    repeat' (first
    | (apply Awp.sreg; (case hn => (simp only [List.length_cons, List.length_nil, Nat.reduceAdd] <;> rfl)))
    | (refine st_nil ?_)
    | (apply st_a; (case hc => rfl); (case he => (simp only [go_sem, *] <;> rfl)); (case hu => (simp only [updL_nil, updL_cons] <;> rfl)); (case hp => first | trivial))
    | (apply st_m; (case hc => rfl); (case hg => (simp only [go_sem, *] <;> rfl)); (case he => (intro hQz; (try simp only [wantB_t, wantB_f, Bool.and_eq_true, Bool.not_eq_true', Bool.not_true, Bool.not_false, and_true, true_and] at hQz); simp only [go_sem, *] <;> rfl)); (case hp => (intro hQz; (try simp only [wantB_t, wantB_f, Bool.and_eq_true, Bool.not_eq_true', Bool.or_eq_false_iff, decide_eq_true_eq, decide_eq_false_iff_not, beq_iff_eq, beq_eq_false_iff_ne, bne_iff_ne, bne_eq_false_iff_eq, Int.not_lt, Int.not_le, Int.ofNat_lt, Int.ofNat_le] at hQz); first | trivial)))
    | (refine Awp.ret ?_; try simp only [go_sem, *]))
    all_goals repeat' (first | exact Lower.bool (by first | rfl | (simp only [true_and, Bool.true_and, Bool.false_and, Bool.and_true, Bool.and_false, Bool.true_or, Bool.false_or, reduceIte, Bool.false_eq_true, *]; done) | (simp only [true_and, reduceIte, Bool.false_eq_true, *] <;> rfl) | (simp [true_and]; done) | (simp_all [true_and]; done) | omega))
  · refine fn_pure Tryz.F58 (Nat.le_of_ble_eq_true rfl) ?_; unfold Tryz.ac58
    repeat' (first
    | (apply Awp.sreg; (case hn => (simp only [List.length_cons, List.length_nil, Nat.reduceAdd] <;> rfl)))
    | (refine st_nil ?_)
    | (apply st_a; (case hc => rfl); (case he => (simp only [go_sem, *] <;> rfl)); (case hu => (simp only [updL_nil, updL_cons] <;> rfl)); (case hp => first | trivial))
    | (apply st_m; (case hc => rfl); (case hg => (simp only [go_sem, *] <;> rfl)); (case he => (intro hQz; (try simp only [wantB_t, wantB_f, Bool.and_eq_true, Bool.not_eq_true', Bool.not_true, Bool.not_false, and_true, true_and] at hQz); simp only [go_sem, *] <;> rfl)); (case hp => (intro hQz; (try simp only [wantB_t, wantB_f, Bool.and_eq_true, Bool.not_eq_true', Bool.or_eq_false_iff, decide_eq_true_eq, decide_eq_false_iff_not, beq_iff_eq, beq_eq_false_iff_ne, bne_iff_ne, bne_eq_false_iff_eq, Int.not_lt, Int.not_le, Int.ofNat_lt, Int.ofNat_le] at hQz); first | trivial)))
    | (refine Awp.ret ?_; try simp only [go_sem, *]))
    all_goals repeat' (first | exact Lower.bool (by first | rfl | (simp only [true_and, Bool.true_and, Bool.false_and, Bool.and_true, Bool.and_false, Bool.true_or, Bool.false_or, reduceIte, Bool.false_eq_true, *]; done) | (simp only [true_and, reduceIte, Bool.false_eq_true, *] <;> rfl) | (simp [true_and]; done) | (simp_all [true_and]; done) | omega))
def stArgs (p q : Int) : List AV := [.v (.int .i64 p), .v (.int .i64 q), .bp 4 0, .bp 0 0, .bp 5 0, .bp 1 0, .bp 2 0, .bp 3 0]
def stHl (a b O : List Sp) (g i k : Nat) : List (Nat × Blk) := [(4, .box [.v (.int .i64 i)]), (0, .box [.sl (sps a)]), (5, .box [.v (.int .i64 k)]), (1, .box [.sl (sps b)]), (2, .box [.fn g []]), (3, .box [.own 6]), (6, .row (sps O) 2 30)]
def stSt (a b O : List Sp) (g : Nat) (p q : Int) (i k : Nat) : AState := mkS [(0, .v (.int .i64 p)), (1, .v (.int .i64 q)), (2, .bp 4 0), (3, .bp 0 0), (4, .bp 5 0), (5, .bp 1 0), (6, .bp 2 0), (7, .bp 3 0)] (stHl a b O g i k)
theorem step_no (a b O : List Sp) (g : Nat) (f : Bool → Bool → Bool) (hg : ∀ x y, Pure Tryz.prog g [.v (.bool x), .v (.bool y)] (.v (.bool (f x y)))) (ha : Canon a) (hb : Canon b) (hal : a.length < 10000) (hbl : b.length < 10000) (hO : O.length < 100000)
    (p q : Int) (i k nm : Nat) (hi : i ≤ nx a p) (hk : k ≤ nx b p) (hnm : 7 ≤ nm) (hf : f (hasB a p) (hasB b p) = false) :
    CallC Tryz.prog 88 (stArgs p q) (stHl a b O g i k) nm (.tup []) [(4, some (.box [.v (.int .i64 (nx a p))])), (0, some (.box [.sl (sps a)])), (5, some (.box [.v (.int .i64 (nx b p))])), (1, some (.box [.sl (sps b)])), (2, some (.box [.fn g []])), (3, some (.box [.own 6])), (6, some (.row (sps O) 2 30))] := by
  have hc := hg (hasB a p) (hasB b p)
  rw [hf] at hc
  have e1 := has_nx ha p
  have e2 := has_nx hb p
  have la : ∀ j, j < nx a p → j < a.length ∧ (a.getD j zeroSp).b ≤ p := fun j hj => ⟨Nat.lt_of_lt_of_le hj (nx_le a p), nx_lt hj⟩
  have lb : ∀ j, j < nx b p → j < b.length ∧ (b.getD j zeroSp).b ≤ p := fun j hj => ⟨Nat.lt_of_lt_of_le hj (nx_le b p), nx_lt hj⟩
  have hA : (∃ s : Sp, (sps a).getD (nx a p) [] = s.cells ∧ s.cells.length = 2 ∧ ((nx a p : Int) < a.length) ∧ decide (s.b ≤ p) = false ∧ decide (s.a ≤ p) = hasB a p) ∨ ((¬ (nx a p : Int) < a.length) ∧ hasB a p = false) := by
    by_cases h : nx a p < a.length
    · refine .inl ⟨a.getD (nx a p) zeroSp, sps_at a _ h, rfl, by omega, decide_eq_false (by have := nx_at h; omega), ?_⟩
      rw [e1, decide_eq_true h, Bool.true_and]
    · refine .inr ⟨by omega, ?_⟩
      rw [e1, decide_eq_false h, Bool.false_and]
  have hB : (∃ s : Sp, (sps b).getD (nx b p) [] = s.cells ∧ s.cells.length = 2 ∧ ((nx b p : Int) < b.length) ∧ decide (s.b ≤ p) = false ∧ decide (s.a ≤ p) = hasB b p) ∨ ((¬ (nx b p : Int) < b.length) ∧ hasB b p = false) := by
    by_cases h : nx b p < b.length
    · refine .inl ⟨b.getD (nx b p) zeroSp, sps_at b _ h, rfl, by omega, decide_eq_false (by have := nx_at h; omega), ?_⟩
      rw [e2, decide_eq_true h, Bool.true_and]
    · refine .inr ⟨by omega, ?_⟩
      rw [e2, decide_eq_false h, Bool.false_and]
  have ila := nx_le a p
  have ilb := nx_le b p
  have eO := sps_snoc O ⟨p, q⟩
  have eO1 := sps_one O
  have eO2 := sps_len O
  have ean := sps_len a
  have ebn := sps_len b
  dsimp only at eO
  clear e1 e2 ha hb hf hg
  generalize nx a p = I at *
  generalize nx b p = J at *
  generalize hasB a p = X at *
  generalize hasB b p = Y at *
  unfold stArgs stHl
  refine fn_cc Tryz.F88 (Nat.le_of_ble_eq_true rfl) (bs := 7) ?_ ?_ ?_ ?_ ?_ ?_ ?_
  · simp
  · simp; omega
  · simp
  · simp
  · simp only [List.map_cons, List.map_nil, List.mem_cons, List.not_mem_nil, or_false]
    rintro p (rfl | rfl | rfl | rfl | rfl | rfl | rfl)
    · exact .box rfl fun j hj => .low (by match j, hj with | 0, _ => exact .same _ rfl)
    · exact .box rfl fun j hj => .low (by match j, hj with | 0, _ => exact .same _ rfl)
    · exact .box rfl fun j hj => .low (by match j, hj with | 0, _ => exact .same _ rfl)
    · exact .box rfl fun j hj => .low (by match j, hj with | 0, _ => exact .same _ rfl)
    · exact .box rfl fun j hj => by match j, hj with | 0, _ => exact .fn rfl fun j hj => by simp at hj
    · exact .box rfl fun j hj => by match j, hj with | 0, _ => exact .own rfl (by simp)
    · exact .row rfl
  · intro j hj
    match j, hj with
    | 0, _ => exact .low (.same _ rfl)
    | 1, _ => exact .low (.same _ rfl)
    | 2, _ => exact .bp rfl (by simp)
    | 3, _ => exact .bp rfl (by simp)
    | 4, _ => exact .bp rfl (by simp)
    | 5, _ => exact .bp rfl (by simp)
    | 6, _ => exact .bp rfl (by simp)
    | 7, _ => exact .bp rfl (by simp)
  · unfold Tryz.ac88
    refine Awp.ghost (nx' := 7) (S' := stSt a b O g p q i k) (by
      unfold stSt stHl
      (apply Ghost.mkB []; (case hnb => rfl); (case hbx => omega); (case hinj => rfl); (case hV => (simp only [go_sem, *]) <;> (repeat' (first | refine And.intro ?_ ?_ | exact .bp rfl (by decide)))); (case hB => (simp only [go_sem, *]) <;> (repeat' (first | refine And.intro ?_ ?_ | exact ⟨_, rfl, BView.boxF rfl⟩ | exact ⟨_, rfl, BView.own1 rfl (by decide)⟩ | exact ⟨_, rfl, .rowE (by first | rfl | omega | (simp; done) | (rw [wrap_i64] <;> (try simp only [Int.natCast_add]) <;> omega) | (simp [*]; done))⟩ | exact ⟨_, rfl, BView.fn0⟩))))) ?_
    unfold stSt stHl
    repeat' (first
    | refine Awp.block ?_
    | refine Awp.seq ?_)
    refine Awp.loop (fun j : Nat => j ≤ I) 100 (fun j => stSt a b O g p q j k) (fun j => I - j) i hi ?_ ?_
    · unfold stSt stHl
      (apply Ghost.mkB []; (case hnb => rfl); (case hbx => omega); (case hinj => rfl); (case hV => (simp only [go_sem, *]) <;> (repeat' (first | refine And.intro ?_ ?_ | exact .bp rfl (by decide)))); (case hB => (simp only [go_sem, *]) <;> (repeat' (first | refine And.intro ?_ ?_ | exact ⟨_, rfl, BView.boxF rfl⟩ | exact ⟨_, rfl, BView.own1 rfl (by decide)⟩ | exact ⟨_, rfl, .rowE (by first | rfl | omega | (simp; done) | (rw [wrap_i64] <;> (try simp only [Int.natCast_add]) <;> omega) | (simp [*]; done))⟩ | exact ⟨_, rfl, BView.fn0⟩))))
    · intro j hj
      by_cases hjI : j < I
      · obtain ⟨h1, h2⟩ := la j hjI
        have h1' : (j : Int) < a.length := by omega
        have hw : IntKind.i64.wrap ((j : Int) + 1) = ((j + 1 : Nat) : Int) := by rw [wrap_i64 (by omega) (by omega)]; simp
        have h2' : decide ((a.getD j zeroSp).b ≤ p) = true := decide_eq_true h2
        have hat := sps_at a j h1
        have hz : ((a.getD j zeroSp).cells).length = 2 := rfl
        generalize a.getD j zeroSp = s at *
        clear h2 la lb hA hB hc
        unfold stSt stHl
        repeat' (first
    | (apply Awp.sreg; (case hn => (simp only [List.length_cons, List.length_nil, Nat.reduceAdd] <;> rfl)))
    | (refine st_nil ?_)
    | (apply st_a; (case hc => rfl); (case he => (simp only [go_sem, *] <;> rfl)); (case hu => (simp only [updL_nil, updL_cons] <;> rfl)); (case hp => first | trivial))
    | (apply st_m; (case hc => rfl); (case hg => (simp only [go_sem, *] <;> rfl)); (case he => (intro hQz; (try simp only [wantB_t, wantB_f, Bool.and_eq_true, Bool.not_eq_true', Bool.not_true, Bool.not_false, and_true, true_and] at hQz); simp only [go_sem, *] <;> rfl)); (case hp => (intro hQz; (try simp only [wantB_t, wantB_f, Bool.and_eq_true, Bool.not_eq_true', Bool.or_eq_false_iff, decide_eq_true_eq, decide_eq_false_iff_not, beq_iff_eq, beq_eq_false_iff_ne, bne_iff_ne, bne_eq_false_iff_eq, Int.not_lt, Int.not_le, Int.ofNat_lt, Int.ofNat_le] at hQz); first | trivial | omega)))
    | (apply Awp.reg; (case hn => (simp only [List.length_cons, List.length_nil, Nat.reduceAdd] <;> rfl)))
    | (refine Awp.skip ?_; try simp only [go_sem, *])
    | refine Awp.block ?_
    | (apply Awp.cond; (case hc => (simp only [go_sem, *] <;> rfl)); all_goals (intro hg; (try simp only [Bool.not_true, Bool.not_false, reduceCtorEq] at hg)))
    | refine Awp.seq ?_)
        refine ⟨j + 1, by omega, by omega, ?_⟩
        (apply Ghost.mkB []; (case hnb => rfl); (case hbx => omega); (case hinj => rfl); (case hV => (simp only [go_sem, *]) <;> (repeat' (first | refine And.intro ?_ ?_ | exact .bp rfl (by decide)))); (case hB => (simp only [go_sem, *]) <;> (repeat' (first | refine And.intro ?_ ?_ | exact ⟨_, rfl, BView.boxF rfl⟩ | exact ⟨_, rfl, BView.own1 rfl (by decide)⟩ | exact ⟨_, rfl, .rowE (by first | rfl | omega | (simp; done) | (rw [wrap_i64] <;> (try simp only [Int.natCast_add]) <;> omega) | (simp [*]; done))⟩ | exact ⟨_, rfl, BView.fn0⟩))))
      · have hjI' : j = I := by omega
        subst hjI'
        clear hjI la hj hi
        rcases hA with ⟨s, a1, a2, a3, a4, a5⟩ | ⟨a1, rfl⟩ <;> rcases hB with ⟨t, b1, b2, b3, b4, b5⟩ | ⟨b1, rfl⟩
        all_goals
          unfold stSt stHl
          repeat' (first
    | (apply Awp.sreg; (case hn => (simp only [List.length_cons, List.length_nil, Nat.reduceAdd] <;> rfl)))
    | (refine st_nil ?_)
    | (apply st_a; (case hc => rfl); (case he => (simp only [go_sem, *] <;> rfl)); (case hu => (simp only [updL_nil, updL_cons] <;> rfl)); (case hp => first | trivial))
    | (apply st_m; (case hc => rfl); (case hg => (simp only [go_sem, *] <;> rfl)); (case he => (intro hQz; (try simp only [wantB_t, wantB_f, Bool.and_eq_true, Bool.not_eq_true', Bool.not_true, Bool.not_false, and_true, true_and] at hQz); simp only [go_sem, *] <;> rfl)); (case hp => (intro hQz; (try simp only [wantB_t, wantB_f, Bool.and_eq_true, Bool.not_eq_true', Bool.or_eq_false_iff, decide_eq_true_eq, decide_eq_false_iff_not, beq_iff_eq, beq_eq_false_iff_ne, bne_iff_ne, bne_eq_false_iff_eq, Int.not_lt, Int.not_le, Int.ofNat_lt, Int.ofNat_le] at hQz); first | trivial | omega)))
    | (refine Awp.exit ?_; try simp only [go_sem, *])
    | refine Awp.block ?_
    | (apply Awp.cond; (case hc => (simp only [go_sem, *] <;> rfl)); all_goals (intro hg; (try simp only [Bool.not_true, Bool.not_false, reduceCtorEq] at hg)))
    | refine Awp.seq ?_)
          refine Awp.loop (fun l : Nat => l ≤ J) 200 (fun l => stSt a b O g p q j l) (fun l => J - l) k hk ?_ ?_
          · unfold stSt stHl
            (apply Ghost.mkB []; (case hnb => rfl); (case hbx => omega); (case hinj => rfl); (case hV => (simp only [go_sem, *]) <;> (repeat' (first | refine And.intro ?_ ?_ | exact .bp rfl (by decide)))); (case hB => (simp only [go_sem, *]) <;> (repeat' (first | refine And.intro ?_ ?_ | exact ⟨_, rfl, BView.boxF rfl⟩ | exact ⟨_, rfl, BView.own1 rfl (by decide)⟩ | exact ⟨_, rfl, .rowE (by first | rfl | omega | (simp; done) | (rw [wrap_i64] <;> (try simp only [Int.natCast_add]) <;> omega) | (simp [*]; done))⟩ | exact ⟨_, rfl, BView.fn0⟩))))
          · intro l hl
            by_cases hlJ : l < J
            · obtain ⟨h1, h2⟩ := lb l hlJ
              have h1' : (l : Int) < b.length := by omega
              have hw : IntKind.i64.wrap ((l : Int) + 1) = ((l + 1 : Nat) : Int) := by rw [wrap_i64 (by omega) (by omega)]; simp
              have h2' : decide ((b.getD l zeroSp).b ≤ p) = true := decide_eq_true h2
              have hat := sps_at b l h1
              have hz : ((b.getD l zeroSp).cells).length = 2 := rfl
              generalize b.getD l zeroSp = u at *
              clear h2 lb hc
              unfold stSt stHl
              repeat' (first
    | (apply Awp.sreg; (case hn => (simp only [List.length_cons, List.length_nil, Nat.reduceAdd] <;> rfl)))
    | (refine st_nil ?_)
    | (apply st_a; (case hc => rfl); (case he => (simp only [go_sem, *] <;> rfl)); (case hu => (simp only [updL_nil, updL_cons] <;> rfl)); (case hp => first | trivial))
    | (apply st_m; (case hc => rfl); (case hg => (simp only [go_sem, *] <;> rfl)); (case he => (intro hQz; (try simp only [wantB_t, wantB_f, Bool.and_eq_true, Bool.not_eq_true', Bool.not_true, Bool.not_false, and_true, true_and] at hQz); simp only [go_sem, *] <;> rfl)); (case hp => (intro hQz; (try simp only [wantB_t, wantB_f, Bool.and_eq_true, Bool.not_eq_true', Bool.or_eq_false_iff, decide_eq_true_eq, decide_eq_false_iff_not, beq_iff_eq, beq_eq_false_iff_ne, bne_iff_ne, bne_eq_false_iff_eq, Int.not_lt, Int.not_le, Int.ofNat_lt, Int.ofNat_le] at hQz); first | trivial | omega)))
    | (apply Awp.reg; (case hn => (simp only [List.length_cons, List.length_nil, Nat.reduceAdd] <;> rfl)))
    | (refine Awp.skip ?_; try simp only [go_sem, *])
    | refine Awp.block ?_
    | (apply Awp.cond; (case hc => (simp only [go_sem, *] <;> rfl)); all_goals (intro hg; (try simp only [Bool.not_true, Bool.not_false, reduceCtorEq] at hg)))
    | refine Awp.seq ?_)
              refine ⟨l + 1, by omega, by omega, ?_⟩
              (apply Ghost.mkB []; (case hnb => rfl); (case hbx => omega); (case hinj => rfl); (case hV => (simp only [go_sem, *]) <;> (repeat' (first | refine And.intro ?_ ?_ | exact .bp rfl (by decide)))); (case hB => (simp only [go_sem, *]) <;> (repeat' (first | refine And.intro ?_ ?_ | exact ⟨_, rfl, BView.boxF rfl⟩ | exact ⟨_, rfl, BView.own1 rfl (by decide)⟩ | exact ⟨_, rfl, .rowE (by first | rfl | omega | (simp; done) | (rw [wrap_i64] <;> (try simp only [Int.natCast_add]) <;> omega) | (simp [*]; done))⟩ | exact ⟨_, rfl, BView.fn0⟩))))
            · have hlJ' : l = J := by omega
              subst hlJ'
              clear hlJ lb hl hk
              unfold stSt stHl
              repeat' (first
    | (apply Awp.sreg; (case hn => (simp only [List.length_cons, List.length_nil, Nat.reduceAdd] <;> rfl)))
    | (apply Awp.sdraw; (case hn => (simp only [List.length_cons, List.length_nil, Nat.reduceAdd] <;> rfl)))
    | (refine st_nil ?_)
    | (apply st_a; (case hc => rfl); (case he => (simp only [go_sem, *] <;> rfl)); (case hu => (simp only [updL_nil, updL_cons] <;> rfl)); (case hp => first | trivial))
    | (apply st_m; (case hc => rfl); (case hg => (simp only [go_sem, *] <;> rfl)); (case he => (intro hQz; (try simp only [wantB_t, wantB_f, Bool.and_eq_true, Bool.not_eq_true', Bool.not_true, Bool.not_false, and_true, true_and] at hQz); simp only [go_sem, *] <;> rfl)); (case hp => (intro hQz; (try simp only [wantB_t, wantB_f, Bool.and_eq_true, Bool.not_eq_true', Bool.or_eq_false_iff, decide_eq_true_eq, decide_eq_false_iff_not, beq_iff_eq, beq_eq_false_iff_ne, bne_iff_ne, bne_eq_false_iff_eq, Int.not_lt, Int.not_le, Int.ofNat_lt, Int.ofNat_le] at hQz); first | trivial | omega)))
    | (refine Awp.skip ?_; try simp only [go_sem, *])
    | (refine Awp.exit ?_; try simp only [go_sem, *])
    | (apply Awp.cond; (case hc => (simp only [go_sem, *] <;> rfl)); all_goals (intro hg; (try simp only [Bool.not_true, Bool.not_false, reduceCtorEq] at hg)))
    | refine Awp.seq ?_
    | (apply sl_a; (case hc => rfl); (case he => (simp only [go_sem, *] <;> rfl)); (case hu => (simp only [updL_nil, updL_cons] <;> rfl)); (case hl => (simp only [List.map_cons, List.map_nil] <;> rfl)); (case hp => first | trivial))
    | (apply sl_gn; (case hv => (simp only [go_sem, *] <;> rfl)); (case hbw => rfl))
    | (apply sl_ga; (case hb => rfl); (case hv => (simp only [go_sem, *] <;> rfl)); (case he => (simp only [go_sem, *] <;> rfl)); (case hu => (simp only [updL_nil, updL_cons] <;> rfl)); (case hl => (simp only [List.map_cons, List.map_nil] <;> rfl)); (case hp => first | trivial | omega))
    | (apply sl_c; (case hc => (simp only [go_sem, *] <;> rfl)); (case hl => (simp only [go_sem, *] <;> rfl)); (case hn => (simp only [go_sem, *] <;> rfl)); (case hp => first | exact hc | (have hXz := hc; simp only [go_sem, *] at hXz; exact hXz)); (case hd => first | exact .inl rfl | exact .inr (.v _) | exact .inr .any | exact .inr .nils); (case hm => first | decide | (simp; done)))
    | (refine sl_nil (And.intro (by first | exact drawOk_of (by decide +kernel) | (simp only [List.map_cons, List.map_nil]; exact drawOk_of (by decide +kernel)) | decide) ?_)))
              have hr : ∀ k, k < 7 → rn nm 7 k = k := fun k hk => by unfold rn; rw [if_neg (by omega)]
              have hrn : rn nm 7 nm = 7 := by unfold rn; rw [if_pos rfl]
              refine ⟨7, by omega, .tup rfl fun j hj => by simp at hj, fun k b' hk => ?_⟩
              have hnm0 : (0 : Nat) ≠ nm := by omega
              have hnm1 : (1 : Nat) ≠ nm := by omega
              have hnm2 : (2 : Nat) ≠ nm := by omega
              have hnm3 : (3 : Nat) ≠ nm := by omega
              have hnm4 : (4 : Nat) ≠ nm := by omega
              have hnm5 : (5 : Nat) ≠ nm := by omega
              have hnm6 : (6 : Nat) ≠ nm := by omega
              by_cases h4 : k = 4
              · subst h4
                have e1 : b' = .box [.v (.int .i64 j)] := by simpa [updL, upd, hnm4] using hk.symm
                subst e1
                rw [hr 4 (by omega)]
                exact ⟨_, rfl, .box rfl fun j hj => .low (by match j, hj with | 0, _ => exact .same _ rfl)⟩
              by_cases h0 : k = 0
              · subst h0
                have e1 : b' = .box [.sl (sps a)] := by simpa [updL, upd, hnm0] using hk.symm
                subst e1
                rw [hr 0 (by omega)]
                exact ⟨_, rfl, .box rfl fun j hj => .low (by match j, hj with | 0, _ => exact .same _ rfl)⟩
              by_cases h5 : k = 5
              · subst h5
                have e1 : b' = .box [.v (.int .i64 l)] := by simpa [updL, upd, hnm5] using hk.symm
                subst e1
                rw [hr 5 (by omega)]
                exact ⟨_, rfl, .box rfl fun j hj => .low (by match j, hj with | 0, _ => exact .same _ rfl)⟩
              by_cases h1 : k = 1
              · subst h1
                have e1 : b' = .box [.sl (sps b)] := by simpa [updL, upd, hnm1] using hk.symm
                subst e1
                rw [hr 1 (by omega)]
                exact ⟨_, rfl, .box rfl fun j hj => .low (by match j, hj with | 0, _ => exact .same _ rfl)⟩
              by_cases h2 : k = 2
              · subst h2
                have e1 : b' = .box [.fn g []] := by simpa [updL, upd, hnm2] using hk.symm
                subst e1
                rw [hr 2 (by omega)]
                exact ⟨_, rfl, .box rfl fun j hj => by match j, hj with | 0, _ => exact .fn rfl fun j hj => by simp at hj⟩
              by_cases h3 : k = 3
              · subst h3
                have e1 : b' = .box [.own 6] := by simpa [updL, upd, hnm3] using hk.symm
                subst e1
                rw [hr 3 (by omega)]
                exact ⟨_, rfl, .box rfl fun j hj => by match j, hj with | 0, _ => exact .own (hr 6 (by omega)) (by simp)⟩
              by_cases h6 : k = 6
              · subst h6
                have e1 : b' = .row (sps O) 2 30 := by simpa [updL, upd, hnm6] using hk.symm
                subst e1
                rw [hr 6 (by omega)]
                exact ⟨_, rfl, .row rfl⟩
              simp [updL, upd, listH, h0, h1, h2, h3, h4, h5, h6] at hk
end Go.Proofs
end
