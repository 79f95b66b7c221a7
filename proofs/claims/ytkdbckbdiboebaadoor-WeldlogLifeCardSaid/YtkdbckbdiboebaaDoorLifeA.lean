import Derived.Test.YtkdbckbdiboebaaDoorWalkA
import Derived.Sort.OwnSortedInts
import Derived.Lib.SlicesCompact
import Derived.Test.YtkdbckbdiboebaaDoorChecked
import Derived.Test.YtkdbckbdiboebaaDoorCode
import Derived.Test.YtkdbckbdiboebaaDoorLayB
section
set_option linter.unusedVariables false
set_option linter.unusedSimpArgs false
namespace Go.Proofs
open Go Go.Ab Go.RowKit
set_option maxHeartbeats 1000000
def sortI (l : List Int) : List Int := l.mergeSort fun x y => decide (x ≤ y)
theorem sortI_len (l : List Int) : (sortI l).length = l.length := List.length_mergeSort _
theorem fits_ints {st : Nat → Prop} {w : World} {l : List Int} {e : TypeId} {c : Value} {xs : List Value} (h : RowFits st w (ints l) 1 e c xs) : xs = l.map (Value.int .i64) := by
  have hlen : xs.length = l.length := by rw [h.row.len, ints_len]; omega
  apply List.ext_getElem (by simpa using hlen)
  intro i h1 h2
  have hi : i < (ints l).length := by rw [ints_len]; omega
  have h3 := h.cell i 0 hi (by omega)
  rw [ints_at l i (by omega)] at h3
  simp only [av_zero, Nat.mul_one, Nat.add_zero, cv, List.getD_eq_getElem?_getD, List.getElem?_eq_getElem h1, Option.getD_some] at h3
  generalize xs[i] = q at h3 ⊢
  cases h3
  have : i < l.length := by omega
  simp [this]
theorem ints_fits {st : Nat → Prop} {w : World} {l : List Int} {e : TypeId} {c : Value} (h : RowRep w e 1 c l.length (l.map (Value.int .i64))) : RowFits st w (ints l) 1 e c (l.map (Value.int .i64)) := by
  refine ⟨by simp [ints], by omega, by rw [ints_len]; exact h, by simp [Value.oneCell'], fun i j hi hj => ?_⟩
  rw [ints_len] at hi
  obtain rfl : j = 0 := by omega
  rw [ints_at l i hi]
  have e1 : cv (l.map (Value.int .i64)) (i * 1 + 0) = .int .i64 (l.getD i 0) := by
    simp [cv, List.getD_eq_getElem?_getD, hi]
  rw [e1]
  exact .v _
theorem sort_cc (l : List Int) (b nm : Nat) (e : TypeId) (hl : l.length < 1000000) : CallC Tryd.prog 42 [.own b] [(b, .row (ints l) 1 e)] nm (.tup []) [(b, some (.row (ints (sortI l)) 1 e))] := by
  refine ⟨⟨_, Tryd.func42, by kernel_rfl, by kernel_rfl⟩, fun prov β w cs hn hb hi hv => ?_⟩
  have hlk : ∀ n, updL (listH [(b, Blk.row (ints l) 1 e)]) [(b, some (Blk.row (ints (sortI l)) 1 e))] n = if n = b then some (.row (ints (sortI l)) 1 e) else none := by
    intro n; simp only [updL, upd, listH]; split <;> simp
  have hB := hb b (.row (ints l) 1 e) (by simp [listH])
  obtain ⟨xs, hf⟩ := hB
  obtain rfl := fits_ints hf
  obtain ⟨hlen, hv⟩ := hv
  match cs, hlen with
  | [c], _ =>
  have h1 := hv 0 (by simp)
  simp only [av_zero, cv, List.getD_cons_zero] at h1
  obtain ⟨rfl, _⟩ := h1.own_inv
  have tail : ∀ w', Value.tuple #[] = Value.tuple #[] → w.grownBy w' (blkOf (β b)) → RowRep w' e 1 (β b) (sortI l).length ((sortI l).map (Value.int .i64)) →
      ∃ c β', Ending.returned (Value.tuple #[]) = .returned c ∧ w'.os = w.os ∧ w'.tape = w.tape ∧ w'.output = w.output ∧ w.heap.size ≤ w'.heap.size ∧ Grows β β' ∧ (∀ n, n ≠ nm → β' n = β n) ∧
      (∀ g, g < w.heap.size → (∀ n b', listH [(b, Blk.row (ints l) 1 e)] n = some b' → n ∈ [(b, some (Blk.row (ints (sortI l)) 1 e))].map (·.1) → blkOf (β n) ≠ some g) → w'.heap[g]? = w.heap[g]?) ∧
      SimV (stb (fun g => prov g ∨ w.heap.size ≤ g) w' β' (updL (listH [(b, Blk.row (ints l) 1 e)]) [(b, some (Blk.row (ints (sortI l)) 1 e))])) β' w' (.tup []) c ∧
      (∀ n b', updL (listH [(b, Blk.row (ints l) 1 e)]) [(b, some (Blk.row (ints (sortI l)) 1 e))] n = some b' → n ∈ [(b, some (Blk.row (ints (sortI l)) 1 e))].map (·.1) → BlkRep (stb (fun g => prov g ∨ w.heap.size ≤ g) w' β' (updL (listH [(b, Blk.row (ints l) 1 e)]) [(b, some (Blk.row (ints (sortI l)) 1 e))])) β' w' b' (β' n) ∧
        ∀ g, blkOf (β' n) = some g → w.heap.size ≤ g ∨ ∃ m b', listH [(b, Blk.row (ints l) 1 e)] m = some b' ∧ m ∈ [(b, some (Blk.row (ints (sortI l)) 1 e))].map (·.1) ∧ blkOf (β m) = some g) ∧
      Inj β' (updL (listH [(b, Blk.row (ints l) 1 e)]) [(b, some (Blk.row (ints (sortI l)) 1 e))]) := by
    intro w' _ hg hr
    refine ⟨_, β, rfl, hg.os, hg.tape, hg.output, hg.size, Grows.refl _, fun _ _ => rfl, fun g hgl hno => ?_, .pure (.tup [] [] rfl (fun j hj => by simp at hj)), fun n b' hb' _ => ?_, ?_⟩
    · exact hg.block g hgl (fun e' => hno b (.row (ints l) 1 e) (by simp [listH]) (by simp) e'.symm)
    · rw [hlk] at hb'
      split at hb'
      · rename_i hnb; subst hnb
        simp at hb'; subst hb'
        exact ⟨⟨_, ints_fits hr⟩, fun g hgb => .inr ⟨n, .row (ints l) 1 e, by simp [listH], by simp, hgb⟩⟩
      · cases hb'
    · intro n m b1 b2 g h1 h2 _ _
      rw [hlk] at h1 h2
      split at h1
      · split at h2
        · simp_all
        · cases h2
      · cases h1
  rcases hf.row with ⟨a, hc, h0, hx⟩ | ⟨g, cap, hc, h0, hrow⟩
  · have hnil : l = [] := by rw [ints_len] at h0; exact List.eq_nil_of_length_eq_zero h0
    subst hnil
    rw [hc]
    refine (Tryd.slices_Sort_int_none a 0 w).mono fun e' w' ⟨he, hw⟩ => ?_
    subst he; subst hw
    have := tail w' rfl ⟨rfl, rfl, rfl, Nat.le_refl _, fun _ _ _ => rfl⟩ (.inl ⟨a, hc, by simp [sortI], by simp [sortI]⟩)
    exact this
  · rcases hrow.2 with ⟨h', _⟩ | ⟨g', cap', cur, h', _, hg, hn1, hn2, hn3, hn4⟩
    · rw [hc] at h'; cases h'
    · rw [hc] at h'
      simp only [Value.slice.injEq, Option.some.injEq, Addr.mk.injEq, and_true, true_and] at h'
      obtain ⟨rfl, rfl⟩ := h'
      rw [ints_len] at hn1 hn4 hc
      rw [Nat.mul_one] at hn4
      rw [hc]
      have hlt : g < w.heap.size := (Array.getElem?_eq_some_iff.1 hg).1
      refine (Tryd.slices_Sort_int g 0 cap l w (holds_of_blockI hg hn4) hlt (by omega)).mono fun e' w' ⟨he, n, os, hw⟩ => ?_
      subst he; subst hw
      refine tail _ rfl ?_ ?_
      · have : blkOf (β b) = some g := by rw [hc]; simp [blkOf]; omega
        rw [this]
        exact grownBy_sortedI _
      · refine .inr ⟨g, cap, by rw [hc, sortI_len], h0, ?_⟩
        have := ownsRow_sortedI (w := w) (base := 0) (g := g) (cap := cap) (n := n) (e := e) (os := os) (cur := cur) (ss := l) (ts := sortI l) (sortI_len l) (Nat.zero_le _) hg hn1 hn2 hn3
        rw [hc, sortI_len]
        exact this
theorem clone_ok (l : List Int) (hl : l.length < 1000000) : PureOwn Tryd.prog 41 [.sl (ints l)] (ints l) 1 3 := by
  refine ⟨⟨_, Tryd.func41, by kernel_rfl, by kernel_rfl⟩, fun ok w cs ⟨hlen, hv⟩ => ?_⟩
  match cs, hlen with
  | [c], _ =>
  have h1 := hv 0 (by simp)
  simp only [av_zero, cv, List.getD_cons_zero] at h1
  have tail : ∀ w' v', w'.ownsRow w.heap.size 3 1 v' l.length (l.map (Value.int .i64)) → Below w.heap.size w w' →
      ∃ c, Ending.returned v' = .returned c ∧ Keeps w w' ∧ (∃ a n cap, c = .slice a n cap) ∧ (∃ xs, RowFits (fun g => g < w'.heap.size ∧ (ok g ∨ w.heap.size ≤ g) ∧ blkOf c ≠ some g) w' (ints l) 1 3 c xs) ∧ ∀ g, blkOf c = some g → w.heap.size ≤ g := by
    intro w' v' ho hb
    refine ⟨v', rfl, ⟨hb.os, hb.tape, hb.output, hb.size, hb.block⟩, ?_, ⟨_, ints_fits (RowRep.of_owns ho)⟩, fun g hg => ?_⟩
    · rcases ho.2 with ⟨h, _⟩ | ⟨g, cap, cur, h, _⟩
      · exact ⟨_, _, _, h⟩
      · exact ⟨_, _, _, h⟩
    · rcases ho.2 with ⟨h, _⟩ | ⟨g', cap, cur, h, hge, _⟩
      · rw [h] at hg; simp [blkOf] at hg
      · rw [h] at hg
        simp only [blkOf] at hg
        split at hg
        · cases hg
        · simp only [Option.some.injEq] at hg; omega
  generalize hes : ints l = es at h1
  cases h1 with
  | slE a cap hc =>
    have hnil : l = [] := by
      have := congrArg List.length hes
      rw [ints_len] at this
      exact List.eq_nil_of_length_eq_zero this
    subst hnil
    cases a with
    | none =>
      refine (Tryd.slices_Clone_int_nil 0 cap w).mono fun e w' ⟨he, hw⟩ => ?_
      subst he; subst hw
      rw [← hes]
      exact tail w' _ ⟨rfl, .inl ⟨rfl, rfl⟩⟩ (Below.refl _ _)
    | some a =>
      refine (Tryd.slices_Clone_int_zero a cap w).mono fun e w' ⟨v', he, ho, _, hb⟩ => ?_
      subst he
      rw [← hes]
      exact tail w' v' ho hb
  | slC es g off cap sz f hc hm h0 hne hz hst hcell hr =>
    subst hes
    have hsz : sz = 1 := by
      have hp : 0 < l.length := by
        rcases Nat.eq_zero_or_pos l.length with h | h
        · exact absurd (by rw [List.eq_nil_of_length_eq_zero h]; rfl) hne
        · exact h
      have := hz ((ints l).getD 0 []) (by rw [List.getD_eq_getElem?_getD, List.getElem?_eq_getElem (by rw [ints_len]; exact hp)]; exact List.getElem_mem _)
      rw [ints_at l 0 hp] at this
      simpa using this.symm
    subst hsz
    rw [ints_len] at hc
    have hcells : ∀ j, j < l.length → w.cell? ⟨g, off + j, none⟩ = some (.int .i64 (l.getD j 0)) := by
      intro j hj
      have h2 := hcell j 0 (by rw [ints_len]; exact hj) (by omega)
      have h3 := hr j 0 (by rw [ints_len]; exact hj) (by omega)
      rw [ints_at l j hj] at h3
      simp only [av_zero] at h3
      generalize f j 0 = q at h2 h3
      cases h3
      have := h2.1
      simpa using this
    rw [ints_len]
    refine (Tryd.slices_Clone_int g off l.length cap l w (Nat.le_refl _) (by omega) hcells).mono fun e w' ⟨v', he, ho, _, hb⟩ => ?_
    subst he
    rw [List.take_of_length_le (Nat.le_refl _)] at ho
    exact tail w' v' ho hb
end Go.Proofs
end
section
set_option linter.unusedVariables false
set_option linter.unusedSimpArgs false
namespace Go.Proofs
open Go Go.Ab Go.RowKit
set_option maxHeartbeats 1000000
theorem compact_len (l : List Int) : (Lib.compact l).length ≤ l.length := by
  unfold Lib.compact Lib.compactUpTo
  rw [List.length_map]
  exact Nat.le_trans (List.length_filter_le _ _) (by simp)
theorem compact_cc (l : List Int) (b nm : Nat) (e : TypeId) (hnb : nm ≠ b) (hl : l.length < 1000000) : CallC Tryd.prog 43 [.own b] [(b, .row (ints l) 1 e)] nm (.own nm) [(b, none), (nm, some (.row (ints (Lib.compact l)) 1 e))] := by
  refine ⟨⟨_, Tryd.func43, by kernel_rfl, by kernel_rfl⟩, fun prov β w cs hn hb hi hv => ?_⟩
  have hlk : ∀ n, updL (listH [(b, Blk.row (ints l) 1 e)]) [(b, none), (nm, some (Blk.row (ints (Lib.compact l)) 1 e))] n = if n = nm then some (.row (ints (Lib.compact l)) 1 e) else none := by
    intro n; simp only [updL, upd, listH]; split
    · rfl
    · split <;> rfl
  have hB := hb b (.row (ints l) 1 e) (by simp [listH])
  obtain ⟨xs, hf⟩ := hB
  obtain rfl := fits_ints hf
  obtain ⟨hlen, hv⟩ := hv
  match cs, hlen with
  | [c], _ =>
  have h1 := hv 0 (by simp)
  simp only [av_zero, cv, List.getD_cons_zero] at h1
  obtain ⟨rfl, _⟩ := h1.own_inv
  have hgr : ∀ c', Grows β (upd β nm c') := fun c' k hk => by
    unfold upd; split
    · rename_i h; subst h; exact absurd hn hk
    · rfl
  have tail : ∀ w' c', (∃ a n cap, c' = .slice a n cap) → w.grownBy w' (blkOf (β b)) → RowRep w' e 1 c' (Lib.compact l).length ((Lib.compact l).map (Value.int .i64)) → (∀ g, blkOf c' = some g → blkOf (β b) = some g) →
      ∃ c β', Ending.returned c' = .returned c ∧ w'.os = w.os ∧ w'.tape = w.tape ∧ w'.output = w.output ∧ w.heap.size ≤ w'.heap.size ∧ Grows β β' ∧ (∀ n, n ≠ nm → β' n = β n) ∧
      (∀ g, g < w.heap.size → (∀ n b', listH [(b, Blk.row (ints l) 1 e)] n = some b' → n ∈ [(b, none), (nm, some (Blk.row (ints (Lib.compact l)) 1 e))].map (·.1) → blkOf (β n) ≠ some g) → w'.heap[g]? = w.heap[g]?) ∧
      SimV (stb (fun g => prov g ∨ w.heap.size ≤ g) w' β' (updL (listH [(b, Blk.row (ints l) 1 e)]) [(b, none), (nm, some (Blk.row (ints (Lib.compact l)) 1 e))])) β' w' (.own nm) c ∧
      (∀ n b', updL (listH [(b, Blk.row (ints l) 1 e)]) [(b, none), (nm, some (Blk.row (ints (Lib.compact l)) 1 e))] n = some b' → n ∈ [(b, none), (nm, some (Blk.row (ints (Lib.compact l)) 1 e))].map (·.1) → BlkRep (stb (fun g => prov g ∨ w.heap.size ≤ g) w' β' (updL (listH [(b, Blk.row (ints l) 1 e)]) [(b, none), (nm, some (Blk.row (ints (Lib.compact l)) 1 e))])) β' w' b' (β' n) ∧
        ∀ g, blkOf (β' n) = some g → w.heap.size ≤ g ∨ ∃ m b', listH [(b, Blk.row (ints l) 1 e)] m = some b' ∧ m ∈ [(b, none), (nm, some (Blk.row (ints (Lib.compact l)) 1 e))].map (·.1) ∧ blkOf (β m) = some g) ∧
      Inj β' (updL (listH [(b, Blk.row (ints l) 1 e)]) [(b, none), (nm, some (Blk.row (ints (Lib.compact l)) 1 e))]) := by
    intro w' c' ⟨a, n0, cap, hc'⟩ hg hr hbk
    refine ⟨_, upd β nm c', rfl, hg.os, hg.tape, hg.output, hg.size, hgr c', fun n hne => by simp [upd, hne], fun g hgl hno => ?_, ?_, fun n b' hb' _ => ?_, ?_⟩
    · exact hg.block g hgl (fun e' => hno b (.row (ints l) 1 e) (by simp [listH]) (by simp) e'.symm)
    · subst hc'; exact .own nm (by simp [upd])
    · rw [hlk] at hb'
      split at hb'
      · rename_i hnn; subst hnn
        simp at hb'; subst hb'
        have hu : upd β n c' n = c' := by simp [upd]
        rw [hu]
        exact ⟨⟨_, ints_fits hr⟩, fun g hgb => .inr ⟨b, .row (ints l) 1 e, by simp [listH], by simp, hbk g hgb⟩⟩
      · cases hb'
    · intro n m b1 b2 g h1 h2 _ _
      rw [hlk] at h1 h2
      split at h1
      · split at h2
        · simp_all
        · cases h2
      · cases h1
  rcases hf.row with ⟨a, hc, h0, hx⟩ | ⟨g, cap, hc, h0, hrow⟩
  · have hnil : l = [] := by rw [ints_len] at h0; exact List.eq_nil_of_length_eq_zero h0
    subst hnil
    rw [hc]
    refine (Tryd.slices_Compact_int_empty a 0 w).mono fun e' w' ⟨he, hw⟩ => ?_
    subst he; subst hw
    exact tail w' _ ⟨_, _, _, rfl⟩ ⟨rfl, rfl, rfl, Nat.le_refl _, fun _ _ _ => rfl⟩ (.inl ⟨a, rfl, rfl, rfl⟩) (fun g hg => by rw [hc]; exact hg)
  · rcases hrow.2 with ⟨h', _⟩ | ⟨g', cap', cur, h', _, hg, hn1, hn2, hn3, hn4⟩
    · rw [hc] at h'; cases h'
    · rw [hc] at h'
      simp only [Value.slice.injEq, Option.some.injEq, Addr.mk.injEq, and_true, true_and] at h'
      obtain ⟨rfl, rfl⟩ := h'
      rw [ints_len] at hn1 hn4 hc
      rw [Nat.mul_one] at hn4
      rw [hc]
      have hcl : (Lib.compact l).length ≤ l.length := compact_len l
      refine (Tryd.slices_Compact_int g 0 cap l w (holds_of_blockI hg hn4) (by omega) hn1).mono fun e' w' ⟨he, q, hw⟩ => ?_
      subst he
      have hw2 : w' = Sort.grow (Sort.putRow (Value.int .i64) (Sort.ahead w q) g 0 (Lib.compact l ++ List.replicate (l.length - (Lib.compact l).length) 0).toArray) #[] := by rw [hw, Sort.grow_empty]
      subst hw2
      have hbk : blkOf (β b) = some g := by rw [hc]; simp [blkOf]; omega
      refine tail _ _ ⟨_, _, _, rfl⟩ (by rw [hbk]; exact grownBy_sortedI _) (.inr ⟨g, cap, rfl, h0, by simp, .inr ⟨g, cap, _, rfl, Nat.zero_le _, heap_sortedI _ hg, by omega, hn2, by simp [Sort.putCells, hn3], ?_⟩⟩) (fun g' hg' => ?_)
      · rw [Nat.mul_one]
        have ht := take_putCellsI cur (Lib.compact l ++ List.replicate (l.length - (Lib.compact l).length) 0) (by simp; omega)
        have ht2 := congrArg (List.take (Lib.compact l).length) ht
        rw [List.take_take, Nat.min_eq_left (by simp)] at ht2
        rw [ht2, List.map_append]
        exact List.take_left' (by simp)
      · rw [hbk]
        simp only [blkOf] at hg'
        split at hg'
        · cases hg'
        · exact hg'
end Go.Proofs
end
section
set_option linter.unusedVariables false
set_option linter.unusedSimpArgs false
namespace Go.Proofs
open Go Go.Ab
set_option maxHeartbeats 4000000
set_option maxRecDepth 100000
set_option linter.unusedSimpArgs false
set_option linter.unusedVariables false
theorem rmethods_eq (k c : Int) : (if decide (k < 1) || decide (2 < k) || decide (c < 1) || decide (3 < c) then ([] : List Int) else [1] ++ (if k == 1 && decide (c ≤ 2) then [3] else []) ++ (if k == 1 && c == 1 then [4] else []) ++ (if k == 2 && decide (c ≤ 2) then [2] else [])) = methods k c := by
  by_cases h : k < 1 ∨ 2 < k ∨ c < 1 ∨ 3 < c
  · have e : methods k c = [] := by
      unfold methods tableE
      have : (k == 1 && c == 1) = false := by simp; omega
      have : (k == 1 && c == 2) = false := by simp; omega
      have : (k == 2 && (c == 1 || c == 2)) = false := by simp; omega
      have : ((k == 1 || k == 2) && c == 3) = false := by simp; omega
      simp [*]
    rw [e, if_pos (by simp; omega)]
  · have hk : k = 1 ∨ k = 2 := by omega
    have hc : c = 1 ∨ c = 2 ∨ c = 3 := by omega
    rcases hk with rfl | rfl <;> rcases hc with rfl | rfl | rfl <;> rfl
attribute [local irreducible] Awp aops aopsL Go.Ab.Pure PureOwn
theorem rmethods2_ok (k c : Int) : Pure Tryd.prog 33 [.v (.int .i64 k), .v (.int .i64 c)] (.sl (ints (methods k c))) := by
  rw [← rmethods_eq]
  refine fn_pure Tryd.F33 (Nat.le_of_ble_eq_true rfl) ?_; unfold Tryd.ac33
  repeat' (first
    | (apply Awp.sreg; (case hn => (simp only [List.length_cons, List.length_nil, Nat.reduceAdd] <;> rfl)))
    | (apply Awp.sdraw; (case hn => (simp only [List.length_cons, List.length_nil, Nat.reduceAdd] <;> rfl)))
    | (refine st_nil ?_)
    | (apply st_a; (case hc => rfl); (case he => (simp only [go_sem, *] <;> rfl)); (case hu => (simp only [updL_nil, updL_cons] <;> rfl)); (case hp => first | trivial | assumption | omega | (simp; done) | (simp; omega) | (simp [*]; done) | ((repeat' (refine And.intro ?_ ?_)) <;> first | trivial | assumption | omega | (simp; done) | (simp; omega) | (simp [*]; done))))
    | (apply st_m; (case hc => rfl); (case hg => (simp only [go_sem, *] <;> rfl)); (case he => (intro hQz; (try simp only [wantB_t, wantB_f, Bool.and_eq_true, Bool.not_eq_true', Bool.not_true, Bool.not_false, and_true, true_and] at hQz); simp only [go_sem, *] <;> rfl)); (case hp => (intro hQz; (try simp only [wantB_t, wantB_f, Bool.and_eq_true, Bool.not_eq_true', Bool.or_eq_false_iff, decide_eq_true_eq, decide_eq_false_iff_not, beq_iff_eq, beq_eq_false_iff_ne, bne_iff_ne, bne_eq_false_iff_eq, Int.not_lt, Int.not_le, Int.ofNat_lt, Int.ofNat_le] at hQz); first | trivial | assumption | omega | (simp; done) | (simp; omega) | (simp [*]; done) | ((repeat' (refine And.intro ?_ ?_)) <;> first | trivial | assumption | omega | (simp; done) | (simp; omega) | (simp [*]; done)))))
    | (apply st_gu; (case hv => (simp only [go_sem, *] <;> rfl)))
    | (apply st_g; (case hv => (simp only [go_sem, *] <;> rfl)); all_goals (intro hg; (try simp only [Bool.not_true, Bool.not_false, reduceCtorEq] at hg); (try have hg' := hg); (try simp only [decide_eq_true_eq, decide_eq_false_iff_not, Bool.and_eq_true, Bool.or_eq_false_iff, bne_iff_ne, bne_eq_false_iff_eq, beq_iff_eq, beq_eq_false_iff_ne, Int.not_lt, Int.not_le, Int.ofNat_lt, Int.ofNat_le, Int.natCast_inj] at hg')))
    | (apply Awp.reg; (case hn => (simp only [List.length_cons, List.length_nil, Nat.reduceAdd] <;> rfl)))
    | (refine Awp.ret ?_; try simp only [go_sem, *])
    | (refine Awp.skip ?_; try simp only [go_sem, *])
    | (refine Awp.exit ?_; try simp only [go_sem, *])
    | refine Awp.scope ?_
    | refine Awp.block ?_
    | (apply Awp.cond; (case hc => (simp only [go_sem, *] <;> rfl)); all_goals (intro hg; (try simp only [Bool.not_true, Bool.not_false, reduceCtorEq] at hg); (try have hg' := hg); (try simp only [decide_eq_true_eq, decide_eq_false_iff_not, Bool.and_eq_true, Bool.or_eq_false_iff, bne_iff_ne, bne_eq_false_iff_eq, beq_iff_eq, beq_eq_false_iff_ne, Int.not_lt, Int.not_le, Int.ofNat_lt, Int.ofNat_le, Int.natCast_inj] at hg')))
    | refine Awp.seq ?_)
  all_goals repeat' (first | exact Lower.any _ | exact Lower.bool (by first | rfl | (simp only [ints, Bool.true_and, Bool.false_and, Bool.and_true, Bool.and_false, Bool.true_or, Bool.false_or, reduceIte, Bool.false_eq_true, *]; done) | (simp only [ints, reduceIte, Bool.false_eq_true, *] <;> rfl) | (simp [ints]; done) | (simp_all [ints]; done) | omega) | exact Lower.int (by first | rfl | (simp only [ints, Bool.true_and, Bool.false_and, Bool.and_true, Bool.and_false, Bool.true_or, Bool.false_or, reduceIte, Bool.false_eq_true, *]; done) | (simp only [ints, reduceIte, Bool.false_eq_true, *] <;> rfl) | (simp [ints]; done) | (simp_all [ints]; done) | omega) | exact Lower.str (by first | rfl | (simp only [ints, Bool.true_and, Bool.false_and, Bool.and_true, Bool.and_false, Bool.true_or, Bool.false_or, reduceIte, Bool.false_eq_true, *]; done) | (simp only [ints, reduceIte, Bool.false_eq_true, *] <;> rfl) | (simp [ints]; done) | (simp_all [ints]; done) | omega) | exact Lower.ownE (by simp only [go_sem, *] <;> rfl) (by first | rfl | (simp only [ints, Bool.true_and, Bool.false_and, Bool.and_true, Bool.and_false, Bool.true_or, Bool.false_or, reduceIte, Bool.false_eq_true, *]; done) | (simp only [ints, reduceIte, Bool.false_eq_true, *] <;> rfl) | (simp [ints]; done) | (simp_all [ints]; done) | omega) | exact Lower.nilE (by first | rfl | (simp only [ints, Bool.true_and, Bool.false_and, Bool.and_true, Bool.and_false, Bool.true_or, Bool.false_or, reduceIte, Bool.false_eq_true, *]; done) | (simp only [ints, reduceIte, Bool.false_eq_true, *] <;> rfl) | (simp [ints]; done) | (simp_all [ints]; done) | omega) | exact Lower.slE' (by first | rfl | (simp only [ints, Bool.true_and, Bool.false_and, Bool.and_true, Bool.and_false, Bool.true_or, Bool.false_or, reduceIte, Bool.false_eq_true, *]; done) | (simp only [ints, reduceIte, Bool.false_eq_true, *] <;> rfl) | (simp [ints]; done) | (simp_all [ints]; done) | omega) | exact Lower.same _ rfl | refine Lower.aggF ?_ | refine Lower.tupF ?_ | refine All2.cons ?_ ?_ | exact All2.nil)
def sameB (a b : Wd) : Bool := (a.seam.toList == b.seam.toList) && (a.state == b.state) && (a.cls == b.cls) && (a.proc.toList == b.proc.toList) && (a.by_.toList == b.by_.toList) && (a.at_ == b.at_) && (a.repairs == b.repairs) && (a.passed == b.passed)
theorem same12_ok (a b : Wd) (ha : a.passed.length < 1000000) (hb : b.passed.length < 1000000) : Pure Tryd.prog 12 [a.av, b.av] (.v (.bool (sameB a b))) := by
  refine fn_pure Tryd.F12 (Nat.le_of_ble_eq_true rfl) ?_; unfold Tryd.ac12
  repeat' (first
    | (apply Awp.sreg; (case hn => (simp only [List.length_cons, List.length_nil, Nat.reduceAdd] <;> rfl)))
    | (apply Awp.sdraw; (case hn => (simp only [List.length_cons, List.length_nil, Nat.reduceAdd] <;> rfl)))
    | (refine st_nil ?_)
    | (apply st_a; (case hc => rfl); (case he => (simp only [go_sem, *] <;> rfl)); (case hu => (simp only [updL_nil, updL_cons] <;> rfl)); (case hp => first | trivial | assumption | omega | (simp; done) | (simp; omega) | (simp [*]; done) | ((repeat' (refine And.intro ?_ ?_)) <;> first | trivial | assumption | omega | (simp; done) | (simp; omega) | (simp [*]; done))))
    | (apply st_m; (case hc => rfl); (case hg => (simp only [go_sem, *] <;> rfl)); (case he => (intro hQz; (try simp only [wantB_t, wantB_f, Bool.and_eq_true, Bool.not_eq_true', Bool.not_true, Bool.not_false, and_true, true_and] at hQz); simp only [go_sem, *] <;> rfl)); (case hp => (intro hQz; (try simp only [wantB_t, wantB_f, Bool.and_eq_true, Bool.not_eq_true', Bool.or_eq_false_iff, decide_eq_true_eq, decide_eq_false_iff_not, beq_iff_eq, beq_eq_false_iff_ne, bne_iff_ne, bne_eq_false_iff_eq, Int.not_lt, Int.not_le, Int.ofNat_lt, Int.ofNat_le] at hQz); first | trivial | assumption | omega | (simp; done) | (simp; omega) | (simp [*]; done) | ((repeat' (refine And.intro ?_ ?_)) <;> first | trivial | assumption | omega | (simp; done) | (simp; omega) | (simp [*]; done)))))
    | (apply st_mc; (case hop => rfl); (case hg => (simp only [go_sem, *] <;> rfl)); (case hc => (intro hQz; (try simp only [wantB_t, wantB_f, Bool.and_eq_true, Bool.not_eq_true', Bool.not_true, Bool.not_false, and_true, true_and] at hQz); simp only [go_sem, *] <;> rfl)); (case hl => (intro hQz; (try simp only [wantB_t, wantB_f, Bool.and_eq_true, Bool.not_eq_true', Bool.not_true, Bool.not_false, and_true, true_and] at hQz); simp only [go_sem, *] <;> rfl)); (case hn => (intro hQz; (try simp only [wantB_t, wantB_f, Bool.and_eq_true, Bool.not_eq_true', Bool.not_true, Bool.not_false, and_true, true_and] at hQz); simp only [go_sem, *] <;> rfl)); (case hp => intro hQz; first | exact same_ok _ _ ha hb | (have hXz := same_ok _ _ ha hb; simp only [go_sem, *] at hXz; exact hXz)))
    | (apply st_c; (case hc => (simp only [go_sem, *] <;> rfl)); (case hl => (simp only [go_sem, *] <;> rfl)); (case hn => (simp only [go_sem, *] <;> rfl)); (case hp => first | exact same_ok _ _ ha hb | (have hXz := same_ok _ _ ha hb; simp only [go_sem, *] at hXz; exact hXz)))
    | (apply st_cd; (case hc => (simp only [go_sem, *] <;> rfl)); (case hl => (simp only [go_sem, *] <;> rfl)); (case hn => (simp only [go_sem, *] <;> rfl)); (case hp => first | exact same_ok _ _ ha hb | (have hXz := same_ok _ _ ha hb; simp only [go_sem, *] at hXz; exact hXz)); (case hd => first | exact .v _ | exact .any | exact .nils); (case hm => first | decide | (simp; done)))
    | (apply st_gu; (case hv => (simp only [go_sem, *] <;> rfl)))
    | (apply st_g; (case hv => (simp only [go_sem, *] <;> rfl)); all_goals (intro hg; (try simp only [Bool.not_true, Bool.not_false, reduceCtorEq] at hg); (try have hg' := hg); (try simp only [decide_eq_true_eq, decide_eq_false_iff_not, Bool.and_eq_true, Bool.or_eq_false_iff, bne_iff_ne, bne_eq_false_iff_eq, beq_iff_eq, beq_eq_false_iff_ne, Int.not_lt, Int.not_le, Int.ofNat_lt, Int.ofNat_le, Int.natCast_inj] at hg')))
    | (apply Awp.reg; (case hn => (simp only [List.length_cons, List.length_nil, Nat.reduceAdd] <;> rfl)))
    | (refine Awp.ret ?_; try simp only [go_sem, *])
    | (refine Awp.skip ?_; try simp only [go_sem, *])
    | (refine Awp.exit ?_; try simp only [go_sem, *])
    | refine Awp.scope ?_
    | refine Awp.block ?_
    | (apply Awp.cond; (case hc => (simp only [go_sem, *] <;> rfl)); all_goals (intro hg; (try simp only [Bool.not_true, Bool.not_false, reduceCtorEq] at hg); (try have hg' := hg); (try simp only [decide_eq_true_eq, decide_eq_false_iff_not, Bool.and_eq_true, Bool.or_eq_false_iff, bne_iff_ne, bne_eq_false_iff_eq, beq_iff_eq, beq_eq_false_iff_ne, Int.not_lt, Int.not_le, Int.ofNat_lt, Int.ofNat_le, Int.natCast_inj] at hg')))
    | refine Awp.seq ?_)
  all_goals repeat' (first | exact Lower.any _ | exact Lower.bool (by first | rfl | (simp only [sameB, Bool.true_and, Bool.false_and, Bool.and_true, Bool.and_false, Bool.true_or, Bool.false_or, reduceIte, Bool.false_eq_true, *]; done) | (simp only [sameB, reduceIte, Bool.false_eq_true, *] <;> rfl) | (simp [sameB]; done) | (simp_all [sameB]; done) | omega) | exact Lower.int (by first | rfl | (simp only [sameB, Bool.true_and, Bool.false_and, Bool.and_true, Bool.and_false, Bool.true_or, Bool.false_or, reduceIte, Bool.false_eq_true, *]; done) | (simp only [sameB, reduceIte, Bool.false_eq_true, *] <;> rfl) | (simp [sameB]; done) | (simp_all [sameB]; done) | omega) | exact Lower.str (by first | rfl | (simp only [sameB, Bool.true_and, Bool.false_and, Bool.and_true, Bool.and_false, Bool.true_or, Bool.false_or, reduceIte, Bool.false_eq_true, *]; done) | (simp only [sameB, reduceIte, Bool.false_eq_true, *] <;> rfl) | (simp [sameB]; done) | (simp_all [sameB]; done) | omega) | exact Lower.ownE (by simp only [go_sem, *] <;> rfl) (by first | rfl | (simp only [sameB, Bool.true_and, Bool.false_and, Bool.and_true, Bool.and_false, Bool.true_or, Bool.false_or, reduceIte, Bool.false_eq_true, *]; done) | (simp only [sameB, reduceIte, Bool.false_eq_true, *] <;> rfl) | (simp [sameB]; done) | (simp_all [sameB]; done) | omega) | exact Lower.nilE (by first | rfl | (simp only [sameB, Bool.true_and, Bool.false_and, Bool.and_true, Bool.and_false, Bool.true_or, Bool.false_or, reduceIte, Bool.false_eq_true, *]; done) | (simp only [sameB, reduceIte, Bool.false_eq_true, *] <;> rfl) | (simp [sameB]; done) | (simp_all [sameB]; done) | omega) | exact Lower.slE' (by first | rfl | (simp only [sameB, Bool.true_and, Bool.false_and, Bool.and_true, Bool.and_false, Bool.true_or, Bool.false_or, reduceIte, Bool.false_eq_true, *]; done) | (simp only [sameB, reduceIte, Bool.false_eq_true, *] <;> rfl) | (simp [sameB]; done) | (simp_all [sameB]; done) | omega) | exact Lower.same _ rfl | refine Lower.aggF ?_ | refine Lower.tupF ?_ | refine All2.cons ?_ ?_ | exact All2.nil)
theorem same17_ok (a b : Wd) (ha : a.passed.length < 1000000) (hb : b.passed.length < 1000000) : Pure Tryd.prog 17 [a.av, b.av] (.v (.bool (sameB a b))) := by
  refine fn_pure Tryd.F17 (Nat.le_of_ble_eq_true rfl) ?_; unfold Tryd.ac17
  repeat' (first
    | (apply Awp.sreg; (case hn => (simp only [List.length_cons, List.length_nil, Nat.reduceAdd] <;> rfl)))
    | (apply Awp.sdraw; (case hn => (simp only [List.length_cons, List.length_nil, Nat.reduceAdd] <;> rfl)))
    | (refine st_nil ?_)
    | (apply st_a; (case hc => rfl); (case he => (simp only [go_sem, *] <;> rfl)); (case hu => (simp only [updL_nil, updL_cons] <;> rfl)); (case hp => first | trivial | assumption | omega | (simp; done) | (simp; omega) | (simp [*]; done) | ((repeat' (refine And.intro ?_ ?_)) <;> first | trivial | assumption | omega | (simp; done) | (simp; omega) | (simp [*]; done))))
    | (apply st_m; (case hc => rfl); (case hg => (simp only [go_sem, *] <;> rfl)); (case he => (intro hQz; (try simp only [wantB_t, wantB_f, Bool.and_eq_true, Bool.not_eq_true', Bool.not_true, Bool.not_false, and_true, true_and] at hQz); simp only [go_sem, *] <;> rfl)); (case hp => (intro hQz; (try simp only [wantB_t, wantB_f, Bool.and_eq_true, Bool.not_eq_true', Bool.or_eq_false_iff, decide_eq_true_eq, decide_eq_false_iff_not, beq_iff_eq, beq_eq_false_iff_ne, bne_iff_ne, bne_eq_false_iff_eq, Int.not_lt, Int.not_le, Int.ofNat_lt, Int.ofNat_le] at hQz); first | trivial | assumption | omega | (simp; done) | (simp; omega) | (simp [*]; done) | ((repeat' (refine And.intro ?_ ?_)) <;> first | trivial | assumption | omega | (simp; done) | (simp; omega) | (simp [*]; done)))))
    | (apply st_mc; (case hop => rfl); (case hg => (simp only [go_sem, *] <;> rfl)); (case hc => (intro hQz; (try simp only [wantB_t, wantB_f, Bool.and_eq_true, Bool.not_eq_true', Bool.not_true, Bool.not_false, and_true, true_and] at hQz); simp only [go_sem, *] <;> rfl)); (case hl => (intro hQz; (try simp only [wantB_t, wantB_f, Bool.and_eq_true, Bool.not_eq_true', Bool.not_true, Bool.not_false, and_true, true_and] at hQz); simp only [go_sem, *] <;> rfl)); (case hn => (intro hQz; (try simp only [wantB_t, wantB_f, Bool.and_eq_true, Bool.not_eq_true', Bool.not_true, Bool.not_false, and_true, true_and] at hQz); simp only [go_sem, *] <;> rfl)); (case hp => intro hQz; first | exact equal_ok _ _ ha hb | (have hXz := equal_ok _ _ ha hb; simp only [go_sem, *] at hXz; exact hXz)))
    | (apply st_c; (case hc => (simp only [go_sem, *] <;> rfl)); (case hl => (simp only [go_sem, *] <;> rfl)); (case hn => (simp only [go_sem, *] <;> rfl)); (case hp => first | exact equal_ok _ _ ha hb | (have hXz := equal_ok _ _ ha hb; simp only [go_sem, *] at hXz; exact hXz)))
    | (apply st_cd; (case hc => (simp only [go_sem, *] <;> rfl)); (case hl => (simp only [go_sem, *] <;> rfl)); (case hn => (simp only [go_sem, *] <;> rfl)); (case hp => first | exact equal_ok _ _ ha hb | (have hXz := equal_ok _ _ ha hb; simp only [go_sem, *] at hXz; exact hXz)); (case hd => first | exact .v _ | exact .any | exact .nils); (case hm => first | decide | (simp; done)))
    | (apply st_gu; (case hv => (simp only [go_sem, *] <;> rfl)))
    | (apply st_g; (case hv => (simp only [go_sem, *] <;> rfl)); all_goals (intro hg; (try simp only [Bool.not_true, Bool.not_false, reduceCtorEq] at hg); (try have hg' := hg); (try simp only [decide_eq_true_eq, decide_eq_false_iff_not, Bool.and_eq_true, Bool.or_eq_false_iff, bne_iff_ne, bne_eq_false_iff_eq, beq_iff_eq, beq_eq_false_iff_ne, Int.not_lt, Int.not_le, Int.ofNat_lt, Int.ofNat_le, Int.natCast_inj] at hg')))
    | (apply Awp.reg; (case hn => (simp only [List.length_cons, List.length_nil, Nat.reduceAdd] <;> rfl)))
    | (refine Awp.ret ?_; try simp only [go_sem, *])
    | (refine Awp.skip ?_; try simp only [go_sem, *])
    | (refine Awp.exit ?_; try simp only [go_sem, *])
    | refine Awp.scope ?_
    | refine Awp.block ?_
    | (apply Awp.cond; (case hc => (simp only [go_sem, *] <;> rfl)); all_goals (intro hg; (try simp only [Bool.not_true, Bool.not_false, reduceCtorEq] at hg); (try have hg' := hg); (try simp only [decide_eq_true_eq, decide_eq_false_iff_not, Bool.and_eq_true, Bool.or_eq_false_iff, bne_iff_ne, bne_eq_false_iff_eq, beq_iff_eq, beq_eq_false_iff_ne, Int.not_lt, Int.not_le, Int.ofNat_lt, Int.ofNat_le, Int.natCast_inj] at hg')))
    | refine Awp.seq ?_)
  all_goals repeat' (first | exact Lower.any _ | exact Lower.bool (by first | rfl | (simp only [sameB, Bool.true_and, Bool.false_and, Bool.and_true, Bool.and_false, Bool.true_or, Bool.false_or, reduceIte, Bool.false_eq_true, *]; done) | (simp only [sameB, reduceIte, Bool.false_eq_true, *] <;> rfl) | (simp [sameB]; done) | (simp_all [sameB]; done) | omega) | exact Lower.int (by first | rfl | (simp only [sameB, Bool.true_and, Bool.false_and, Bool.and_true, Bool.and_false, Bool.true_or, Bool.false_or, reduceIte, Bool.false_eq_true, *]; done) | (simp only [sameB, reduceIte, Bool.false_eq_true, *] <;> rfl) | (simp [sameB]; done) | (simp_all [sameB]; done) | omega) | exact Lower.str (by first | rfl | (simp only [sameB, Bool.true_and, Bool.false_and, Bool.and_true, Bool.and_false, Bool.true_or, Bool.false_or, reduceIte, Bool.false_eq_true, *]; done) | (simp only [sameB, reduceIte, Bool.false_eq_true, *] <;> rfl) | (simp [sameB]; done) | (simp_all [sameB]; done) | omega) | exact Lower.ownE (by simp only [go_sem, *] <;> rfl) (by first | rfl | (simp only [sameB, Bool.true_and, Bool.false_and, Bool.and_true, Bool.and_false, Bool.true_or, Bool.false_or, reduceIte, Bool.false_eq_true, *]; done) | (simp only [sameB, reduceIte, Bool.false_eq_true, *] <;> rfl) | (simp [sameB]; done) | (simp_all [sameB]; done) | omega) | exact Lower.nilE (by first | rfl | (simp only [sameB, Bool.true_and, Bool.false_and, Bool.and_true, Bool.and_false, Bool.true_or, Bool.false_or, reduceIte, Bool.false_eq_true, *]; done) | (simp only [sameB, reduceIte, Bool.false_eq_true, *] <;> rfl) | (simp [sameB]; done) | (simp_all [sameB]; done) | omega) | exact Lower.slE' (by first | rfl | (simp only [sameB, Bool.true_and, Bool.false_and, Bool.and_true, Bool.and_false, Bool.true_or, Bool.false_or, reduceIte, Bool.false_eq_true, *]; done) | (simp only [sameB, reduceIte, Bool.false_eq_true, *] <;> rfl) | (simp [sameB]; done) | (simp_all [sameB]; done) | omega) | exact Lower.same _ rfl | refine Lower.aggF ?_ | refine Lower.tupF ?_ | refine All2.cons ?_ ?_ | exact All2.nil)
def zeroW : Wd := ⟨⟨#[]⟩, 0, 0, ⟨#[]⟩, ⟨#[]⟩, 0, 0, []⟩
def startE (w : Wd) (p b : ByteArray) (a : Int) : Wd × Int := if w.state != 1 then (zeroW, 14) else if !nameB p || !nameB b then (zeroW, 6) else if !(decide (0 ≤ a) && decide (a ≤ 1048576)) then (zeroW, 15) else (w.made p b a 0, 0)
def resW (x : Wd × Int) : AV := .tup [x.1.av, .v (.int .i64 x.2)]
theorem start_ok (w : Wd) (p b : ByteArray) (a : Int) : Pure Tryd.prog 18 [w.av, .v (.string p), .v (.string b), .v (.int .i64 a)] (resW (startE w p b a)) := by
  refine fn_pure Tryd.F18 (Nat.le_of_ble_eq_true rfl) ?_; unfold Tryd.ac18
  repeat' (first
    | (apply Awp.sreg; (case hn => (simp only [List.length_cons, List.length_nil, Nat.reduceAdd] <;> rfl)))
    | (apply Awp.sdraw; (case hn => (simp only [List.length_cons, List.length_nil, Nat.reduceAdd] <;> rfl)))
    | (refine st_nil ?_)
    | (apply st_a; (case hc => rfl); (case he => (simp only [go_sem, *] <;> rfl)); (case hu => (simp only [updL_nil, updL_cons] <;> rfl)); (case hp => first | trivial | assumption | omega | (simp; done) | (simp; omega) | (simp [*]; done) | ((repeat' (refine And.intro ?_ ?_)) <;> first | trivial | assumption | omega | (simp; done) | (simp; omega) | (simp [*]; done))))
    | (apply st_m; (case hc => rfl); (case hg => (simp only [go_sem, *] <;> rfl)); (case he => (intro hQz; (try simp only [wantB_t, wantB_f, Bool.and_eq_true, Bool.not_eq_true', Bool.not_true, Bool.not_false, and_true, true_and] at hQz); simp only [go_sem, *] <;> rfl)); (case hp => (intro hQz; (try simp only [wantB_t, wantB_f, Bool.and_eq_true, Bool.not_eq_true', Bool.or_eq_false_iff, decide_eq_true_eq, decide_eq_false_iff_not, beq_iff_eq, beq_eq_false_iff_ne, bne_iff_ne, bne_eq_false_iff_eq, Int.not_lt, Int.not_le, Int.ofNat_lt, Int.ofNat_le] at hQz); first | trivial | assumption | omega | (simp; done) | (simp; omega) | (simp [*]; done) | ((repeat' (refine And.intro ?_ ?_)) <;> first | trivial | assumption | omega | (simp; done) | (simp; omega) | (simp [*]; done)))))
    | (apply st_mc; (case hop => rfl); (case hg => (simp only [go_sem, *] <;> rfl)); (case hc => (intro hQz; (try simp only [wantB_t, wantB_f, Bool.and_eq_true, Bool.not_eq_true', Bool.not_true, Bool.not_false, and_true, true_and] at hQz); simp only [go_sem, *] <;> rfl)); (case hl => (intro hQz; (try simp only [wantB_t, wantB_f, Bool.and_eq_true, Bool.not_eq_true', Bool.not_true, Bool.not_false, and_true, true_and] at hQz); simp only [go_sem, *] <;> rfl)); (case hn => (intro hQz; (try simp only [wantB_t, wantB_f, Bool.and_eq_true, Bool.not_eq_true', Bool.not_true, Bool.not_false, and_true, true_and] at hQz); simp only [go_sem, *] <;> rfl)); (case hp => intro hQz; first | exact name_ok _ | (have hXz := name_ok _; simp only [go_sem, *] at hXz; exact hXz)))
    | (apply st_c; (case hc => (simp only [go_sem, *] <;> rfl)); (case hl => (simp only [go_sem, *] <;> rfl)); (case hn => (simp only [go_sem, *] <;> rfl)); (case hp => first | exact name_ok _ | (have hXz := name_ok _; simp only [go_sem, *] at hXz; exact hXz)))
    | (apply st_cd; (case hc => (simp only [go_sem, *] <;> rfl)); (case hl => (simp only [go_sem, *] <;> rfl)); (case hn => (simp only [go_sem, *] <;> rfl)); (case hp => first | exact name_ok _ | (have hXz := name_ok _; simp only [go_sem, *] at hXz; exact hXz)); (case hd => first | exact .v _ | exact .any | exact .nils); (case hm => first | decide | (simp; done)))
    | (apply st_mc; (case hop => rfl); (case hg => (simp only [go_sem, *] <;> rfl)); (case hc => (intro hQz; (try simp only [wantB_t, wantB_f, Bool.and_eq_true, Bool.not_eq_true', Bool.not_true, Bool.not_false, and_true, true_and] at hQz); simp only [go_sem, *] <;> rfl)); (case hl => (intro hQz; (try simp only [wantB_t, wantB_f, Bool.and_eq_true, Bool.not_eq_true', Bool.not_true, Bool.not_false, and_true, true_and] at hQz); simp only [go_sem, *] <;> rfl)); (case hn => (intro hQz; (try simp only [wantB_t, wantB_f, Bool.and_eq_true, Bool.not_eq_true', Bool.not_true, Bool.not_false, and_true, true_and] at hQz); simp only [go_sem, *] <;> rfl)); (case hp => intro hQz; first | exact from_ok _ _ _ | (have hXz := from_ok _ _ _; simp only [go_sem, *] at hXz; exact hXz)))
    | (apply st_c; (case hc => (simp only [go_sem, *] <;> rfl)); (case hl => (simp only [go_sem, *] <;> rfl)); (case hn => (simp only [go_sem, *] <;> rfl)); (case hp => first | exact from_ok _ _ _ | (have hXz := from_ok _ _ _; simp only [go_sem, *] at hXz; exact hXz)))
    | (apply st_cd; (case hc => (simp only [go_sem, *] <;> rfl)); (case hl => (simp only [go_sem, *] <;> rfl)); (case hn => (simp only [go_sem, *] <;> rfl)); (case hp => first | exact from_ok _ _ _ | (have hXz := from_ok _ _ _; simp only [go_sem, *] at hXz; exact hXz)); (case hd => first | exact .v _ | exact .any | exact .nils); (case hm => first | decide | (simp; done)))
    | (apply st_mc; (case hop => rfl); (case hg => (simp only [go_sem, *] <;> rfl)); (case hc => (intro hQz; (try simp only [wantB_t, wantB_f, Bool.and_eq_true, Bool.not_eq_true', Bool.not_true, Bool.not_false, and_true, true_and] at hQz); simp only [go_sem, *] <;> rfl)); (case hl => (intro hQz; (try simp only [wantB_t, wantB_f, Bool.and_eq_true, Bool.not_eq_true', Bool.not_true, Bool.not_false, and_true, true_and] at hQz); simp only [go_sem, *] <;> rfl)); (case hn => (intro hQz; (try simp only [wantB_t, wantB_f, Bool.and_eq_true, Bool.not_eq_true', Bool.not_true, Bool.not_false, and_true, true_and] at hQz); simp only [go_sem, *] <;> rfl)); (case hp => intro hQz; first | exact welded_ok w p b a 0 | (have hXz := welded_ok w p b a 0; simp only [go_sem, *] at hXz; exact hXz)))
    | (apply st_c; (case hc => (simp only [go_sem, *] <;> rfl)); (case hl => (simp only [go_sem, *] <;> rfl)); (case hn => (simp only [go_sem, *] <;> rfl)); (case hp => first | exact welded_ok w p b a 0 | (have hXz := welded_ok w p b a 0; simp only [go_sem, *] at hXz; exact hXz)))
    | (apply st_cd; (case hc => (simp only [go_sem, *] <;> rfl)); (case hl => (simp only [go_sem, *] <;> rfl)); (case hn => (simp only [go_sem, *] <;> rfl)); (case hp => first | exact welded_ok w p b a 0 | (have hXz := welded_ok w p b a 0; simp only [go_sem, *] at hXz; exact hXz)); (case hd => first | exact .v _ | exact .any | exact .nils); (case hm => first | decide | (simp; done)))
    | (apply st_mc; (case hop => rfl); (case hg => (simp only [go_sem, *] <;> rfl)); (case hc => (intro hQz; (try simp only [wantB_t, wantB_f, Bool.and_eq_true, Bool.not_eq_true', Bool.not_true, Bool.not_false, and_true, true_and] at hQz); simp only [go_sem, *] <;> rfl)); (case hl => (intro hQz; (try simp only [wantB_t, wantB_f, Bool.and_eq_true, Bool.not_eq_true', Bool.not_true, Bool.not_false, and_true, true_and] at hQz); simp only [go_sem, *] <;> rfl)); (case hn => (intro hQz; (try simp only [wantB_t, wantB_f, Bool.and_eq_true, Bool.not_eq_true', Bool.not_true, Bool.not_false, and_true, true_and] at hQz); simp only [go_sem, *] <;> rfl)); (case hp => intro hQz; first | exact welded_ok w p b a (IntKind.i64.wrap (w.repairs + 1)) | (have hXz := welded_ok w p b a (IntKind.i64.wrap (w.repairs + 1)); simp only [go_sem, *] at hXz; exact hXz)))
    | (apply st_c; (case hc => (simp only [go_sem, *] <;> rfl)); (case hl => (simp only [go_sem, *] <;> rfl)); (case hn => (simp only [go_sem, *] <;> rfl)); (case hp => first | exact welded_ok w p b a (IntKind.i64.wrap (w.repairs + 1)) | (have hXz := welded_ok w p b a (IntKind.i64.wrap (w.repairs + 1)); simp only [go_sem, *] at hXz; exact hXz)))
    | (apply st_cd; (case hc => (simp only [go_sem, *] <;> rfl)); (case hl => (simp only [go_sem, *] <;> rfl)); (case hn => (simp only [go_sem, *] <;> rfl)); (case hp => first | exact welded_ok w p b a (IntKind.i64.wrap (w.repairs + 1)) | (have hXz := welded_ok w p b a (IntKind.i64.wrap (w.repairs + 1)); simp only [go_sem, *] at hXz; exact hXz)); (case hd => first | exact .v _ | exact .any | exact .nils); (case hm => first | decide | (simp; done)))
    | (apply st_gu; (case hv => (simp only [go_sem, *] <;> rfl)))
    | (apply st_g; (case hv => (simp only [go_sem, *] <;> rfl)); all_goals (intro hg; (try simp only [Bool.not_true, Bool.not_false, reduceCtorEq] at hg)))
    | (apply Awp.reg; (case hn => (simp only [List.length_cons, List.length_nil, Nat.reduceAdd] <;> rfl)))
    | (refine Awp.ret ?_; try simp only [go_sem, *])
    | (refine Awp.skip ?_; try simp only [go_sem, *])
    | (refine Awp.exit ?_; try simp only [go_sem, *])
    | refine Awp.scope ?_
    | refine Awp.block ?_
    | (apply Awp.cond; (case hc => (simp only [go_sem, *] <;> rfl)); all_goals (intro hg; (try simp only [Bool.not_true, Bool.not_false, reduceCtorEq] at hg)))
    | refine Awp.seq ?_)
  all_goals simp only [startE, resW, Bool.false_eq_true, reduceIte, *]
  all_goals repeat' (first | exact Lower.any _ | exact Lower.bool (by first | rfl | (simp only [zeroW, ints, Bool.true_and, Bool.false_and, Bool.and_true, Bool.and_false, Bool.true_or, Bool.false_or, reduceIte, Bool.false_eq_true, *]; done) | (simp only [zeroW, ints, reduceIte, Bool.false_eq_true, *] <;> rfl) | (simp [zeroW, ints]; done) | (simp_all [zeroW, ints]; done) | omega) | exact Lower.int (by first | rfl | (simp only [zeroW, ints, Bool.true_and, Bool.false_and, Bool.and_true, Bool.and_false, Bool.true_or, Bool.false_or, reduceIte, Bool.false_eq_true, *]; done) | (simp only [zeroW, ints, reduceIte, Bool.false_eq_true, *] <;> rfl) | (simp [zeroW, ints]; done) | (simp_all [zeroW, ints]; done) | omega) | exact Lower.str (by first | rfl | (simp only [zeroW, ints, Bool.true_and, Bool.false_and, Bool.and_true, Bool.and_false, Bool.true_or, Bool.false_or, reduceIte, Bool.false_eq_true, *]; done) | (simp only [zeroW, ints, reduceIte, Bool.false_eq_true, *] <;> rfl) | (simp [zeroW, ints]; done) | (simp_all [zeroW, ints]; done) | omega) | exact Lower.ownE (by simp only [go_sem, *] <;> rfl) (by first | rfl | (simp only [zeroW, ints, Bool.true_and, Bool.false_and, Bool.and_true, Bool.and_false, Bool.true_or, Bool.false_or, reduceIte, Bool.false_eq_true, *]; done) | (simp only [zeroW, ints, reduceIte, Bool.false_eq_true, *] <;> rfl) | (simp [zeroW, ints]; done) | (simp_all [zeroW, ints]; done) | omega) | exact Lower.nilE (by first | rfl | (simp only [zeroW, ints, Bool.true_and, Bool.false_and, Bool.and_true, Bool.and_false, Bool.true_or, Bool.false_or, reduceIte, Bool.false_eq_true, *]; done) | (simp only [zeroW, ints, reduceIte, Bool.false_eq_true, *] <;> rfl) | (simp [zeroW, ints]; done) | (simp_all [zeroW, ints]; done) | omega) | exact Lower.slE' (by first | rfl | (simp only [zeroW, ints, Bool.true_and, Bool.false_and, Bool.and_true, Bool.and_false, Bool.true_or, Bool.false_or, reduceIte, Bool.false_eq_true, *]; done) | (simp only [zeroW, ints, reduceIte, Bool.false_eq_true, *] <;> rfl) | (simp [zeroW, ints]; done) | (simp_all [zeroW, ints]; done) | omega) | exact Lower.same _ rfl | refine Lower.aggF ?_ | refine Lower.tupF ?_ | refine All2.cons ?_ ?_ | exact All2.nil)
theorem ranges (a lo hi : Int) : (!(decide (lo ≤ a) && decide (a ≤ hi))) = (decide (a < lo) || decide (hi < a)) := by
  rw [Bool.eq_iff_iff]; simp
  first | done | omega
theorem rstart_ok (w : Wd) (p b : ByteArray) (a : Int) : Pure Tryd.prog 19 [w.av, .v (.string p), .v (.string b), .v (.int .i64 a)] (resW (startE w p b a)) := by
  refine fn_pure Tryd.F19 (Nat.le_of_ble_eq_true rfl) ?_; unfold Tryd.ac19
  repeat' (first
    | (apply Awp.sreg; (case hn => (simp only [List.length_cons, List.length_nil, Nat.reduceAdd] <;> rfl)))
    | (apply Awp.sdraw; (case hn => (simp only [List.length_cons, List.length_nil, Nat.reduceAdd] <;> rfl)))
    | (refine st_nil ?_)
    | (apply st_a; (case hc => rfl); (case he => (simp only [go_sem, *] <;> rfl)); (case hu => (simp only [updL_nil, updL_cons] <;> rfl)); (case hp => first | trivial | assumption | omega | (simp; done) | (simp; omega) | (simp [*]; done) | ((repeat' (refine And.intro ?_ ?_)) <;> first | trivial | assumption | omega | (simp; done) | (simp; omega) | (simp [*]; done))))
    | (apply st_m; (case hc => rfl); (case hg => (simp only [go_sem, *] <;> rfl)); (case he => (intro hQz; (try simp only [wantB_t, wantB_f, Bool.and_eq_true, Bool.not_eq_true', Bool.not_true, Bool.not_false, and_true, true_and] at hQz); simp only [go_sem, *] <;> rfl)); (case hp => (intro hQz; (try simp only [wantB_t, wantB_f, Bool.and_eq_true, Bool.not_eq_true', Bool.or_eq_false_iff, decide_eq_true_eq, decide_eq_false_iff_not, beq_iff_eq, beq_eq_false_iff_ne, bne_iff_ne, bne_eq_false_iff_eq, Int.not_lt, Int.not_le, Int.ofNat_lt, Int.ofNat_le] at hQz); first | trivial | assumption | omega | (simp; done) | (simp; omega) | (simp [*]; done) | ((repeat' (refine And.intro ?_ ?_)) <;> first | trivial | assumption | omega | (simp; done) | (simp; omega) | (simp [*]; done)))))
    | (apply st_mc; (case hop => rfl); (case hg => (simp only [go_sem, *] <;> rfl)); (case hc => (intro hQz; (try simp only [wantB_t, wantB_f, Bool.and_eq_true, Bool.not_eq_true', Bool.not_true, Bool.not_false, and_true, true_and] at hQz); simp only [go_sem, *] <;> rfl)); (case hl => (intro hQz; (try simp only [wantB_t, wantB_f, Bool.and_eq_true, Bool.not_eq_true', Bool.not_true, Bool.not_false, and_true, true_and] at hQz); simp only [go_sem, *] <;> rfl)); (case hn => (intro hQz; (try simp only [wantB_t, wantB_f, Bool.and_eq_true, Bool.not_eq_true', Bool.not_true, Bool.not_false, and_true, true_and] at hQz); simp only [go_sem, *] <;> rfl)); (case hp => intro hQz; first | exact rname_ok _ | (have hXz := rname_ok _; simp only [go_sem, *] at hXz; exact hXz)))
    | (apply st_c; (case hc => (simp only [go_sem, *] <;> rfl)); (case hl => (simp only [go_sem, *] <;> rfl)); (case hn => (simp only [go_sem, *] <;> rfl)); (case hp => first | exact rname_ok _ | (have hXz := rname_ok _; simp only [go_sem, *] at hXz; exact hXz)))
    | (apply st_cd; (case hc => (simp only [go_sem, *] <;> rfl)); (case hl => (simp only [go_sem, *] <;> rfl)); (case hn => (simp only [go_sem, *] <;> rfl)); (case hp => first | exact rname_ok _ | (have hXz := rname_ok _; simp only [go_sem, *] at hXz; exact hXz)); (case hd => first | exact .v _ | exact .any | exact .nils); (case hm => first | decide | (simp; done)))
    | (apply st_mc; (case hop => rfl); (case hg => (simp only [go_sem, *] <;> rfl)); (case hc => (intro hQz; (try simp only [wantB_t, wantB_f, Bool.and_eq_true, Bool.not_eq_true', Bool.not_true, Bool.not_false, and_true, true_and] at hQz); simp only [go_sem, *] <;> rfl)); (case hl => (intro hQz; (try simp only [wantB_t, wantB_f, Bool.and_eq_true, Bool.not_eq_true', Bool.not_true, Bool.not_false, and_true, true_and] at hQz); simp only [go_sem, *] <;> rfl)); (case hn => (intro hQz; (try simp only [wantB_t, wantB_f, Bool.and_eq_true, Bool.not_eq_true', Bool.not_true, Bool.not_false, and_true, true_and] at hQz); simp only [go_sem, *] <;> rfl)); (case hp => intro hQz; first | exact rmade_ok w p b a 0 | (have hXz := rmade_ok w p b a 0; simp only [go_sem, *] at hXz; exact hXz)))
    | (apply st_c; (case hc => (simp only [go_sem, *] <;> rfl)); (case hl => (simp only [go_sem, *] <;> rfl)); (case hn => (simp only [go_sem, *] <;> rfl)); (case hp => first | exact rmade_ok w p b a 0 | (have hXz := rmade_ok w p b a 0; simp only [go_sem, *] at hXz; exact hXz)))
    | (apply st_cd; (case hc => (simp only [go_sem, *] <;> rfl)); (case hl => (simp only [go_sem, *] <;> rfl)); (case hn => (simp only [go_sem, *] <;> rfl)); (case hp => first | exact rmade_ok w p b a 0 | (have hXz := rmade_ok w p b a 0; simp only [go_sem, *] at hXz; exact hXz)); (case hd => first | exact .v _ | exact .any | exact .nils); (case hm => first | decide | (simp; done)))
    | (apply st_mc; (case hop => rfl); (case hg => (simp only [go_sem, *] <;> rfl)); (case hc => (intro hQz; (try simp only [wantB_t, wantB_f, Bool.and_eq_true, Bool.not_eq_true', Bool.not_true, Bool.not_false, and_true, true_and] at hQz); simp only [go_sem, *] <;> rfl)); (case hl => (intro hQz; (try simp only [wantB_t, wantB_f, Bool.and_eq_true, Bool.not_eq_true', Bool.not_true, Bool.not_false, and_true, true_and] at hQz); simp only [go_sem, *] <;> rfl)); (case hn => (intro hQz; (try simp only [wantB_t, wantB_f, Bool.and_eq_true, Bool.not_eq_true', Bool.not_true, Bool.not_false, and_true, true_and] at hQz); simp only [go_sem, *] <;> rfl)); (case hp => intro hQz; first | exact rmade_ok w p b a (IntKind.i64.wrap (w.repairs + 1)) | (have hXz := rmade_ok w p b a (IntKind.i64.wrap (w.repairs + 1)); simp only [go_sem, *] at hXz; exact hXz)))
    | (apply st_c; (case hc => (simp only [go_sem, *] <;> rfl)); (case hl => (simp only [go_sem, *] <;> rfl)); (case hn => (simp only [go_sem, *] <;> rfl)); (case hp => first | exact rmade_ok w p b a (IntKind.i64.wrap (w.repairs + 1)) | (have hXz := rmade_ok w p b a (IntKind.i64.wrap (w.repairs + 1)); simp only [go_sem, *] at hXz; exact hXz)))
    | (apply st_cd; (case hc => (simp only [go_sem, *] <;> rfl)); (case hl => (simp only [go_sem, *] <;> rfl)); (case hn => (simp only [go_sem, *] <;> rfl)); (case hp => first | exact rmade_ok w p b a (IntKind.i64.wrap (w.repairs + 1)) | (have hXz := rmade_ok w p b a (IntKind.i64.wrap (w.repairs + 1)); simp only [go_sem, *] at hXz; exact hXz)); (case hd => first | exact .v _ | exact .any | exact .nils); (case hm => first | decide | (simp; done)))
    | (apply st_gu; (case hv => (simp only [go_sem, *] <;> rfl)))
    | (apply st_g; (case hv => (simp only [go_sem, *] <;> rfl)); all_goals (intro hg; (try simp only [Bool.not_true, Bool.not_false, reduceCtorEq] at hg)))
    | (apply Awp.reg; (case hn => (simp only [List.length_cons, List.length_nil, Nat.reduceAdd] <;> rfl)))
    | (refine Awp.ret ?_; try simp only [go_sem, *])
    | (refine Awp.skip ?_; try simp only [go_sem, *])
    | (refine Awp.exit ?_; try simp only [go_sem, *])
    | refine Awp.scope ?_
    | refine Awp.block ?_
    | (apply Awp.cond; (case hc => (simp only [go_sem, *] <;> rfl)); all_goals (intro hg; (try simp only [Bool.not_true, Bool.not_false, reduceCtorEq] at hg)))
    | refine Awp.seq ?_)
  all_goals simp only [startE, ranges, resW, Bool.false_eq_true, reduceIte, *]
  all_goals repeat' (first | exact Lower.any _ | exact Lower.bool (by first | rfl | (simp only [zeroW, ints, Bool.true_and, Bool.false_and, Bool.and_true, Bool.and_false, Bool.true_or, Bool.false_or, reduceIte, Bool.false_eq_true, *]; done) | (simp only [zeroW, ints, reduceIte, Bool.false_eq_true, *] <;> rfl) | (simp [zeroW, ints]; done) | (simp_all [zeroW, ints]; done) | omega) | exact Lower.int (by first | rfl | (simp only [zeroW, ints, Bool.true_and, Bool.false_and, Bool.and_true, Bool.and_false, Bool.true_or, Bool.false_or, reduceIte, Bool.false_eq_true, *]; done) | (simp only [zeroW, ints, reduceIte, Bool.false_eq_true, *] <;> rfl) | (simp [zeroW, ints]; done) | (simp_all [zeroW, ints]; done) | omega) | exact Lower.str (by first | rfl | (simp only [zeroW, ints, Bool.true_and, Bool.false_and, Bool.and_true, Bool.and_false, Bool.true_or, Bool.false_or, reduceIte, Bool.false_eq_true, *]; done) | (simp only [zeroW, ints, reduceIte, Bool.false_eq_true, *] <;> rfl) | (simp [zeroW, ints]; done) | (simp_all [zeroW, ints]; done) | omega) | exact Lower.ownE (by simp only [go_sem, *] <;> rfl) (by first | rfl | (simp only [zeroW, ints, Bool.true_and, Bool.false_and, Bool.and_true, Bool.and_false, Bool.true_or, Bool.false_or, reduceIte, Bool.false_eq_true, *]; done) | (simp only [zeroW, ints, reduceIte, Bool.false_eq_true, *] <;> rfl) | (simp [zeroW, ints]; done) | (simp_all [zeroW, ints]; done) | omega) | exact Lower.nilE (by first | rfl | (simp only [zeroW, ints, Bool.true_and, Bool.false_and, Bool.and_true, Bool.and_false, Bool.true_or, Bool.false_or, reduceIte, Bool.false_eq_true, *]; done) | (simp only [zeroW, ints, reduceIte, Bool.false_eq_true, *] <;> rfl) | (simp [zeroW, ints]; done) | (simp_all [zeroW, ints]; done) | omega) | exact Lower.slE' (by first | rfl | (simp only [zeroW, ints, Bool.true_and, Bool.false_and, Bool.and_true, Bool.and_false, Bool.true_or, Bool.false_or, reduceIte, Bool.false_eq_true, *]; done) | (simp only [zeroW, ints, reduceIte, Bool.false_eq_true, *] <;> rfl) | (simp [zeroW, ints]; done) | (simp_all [zeroW, ints]; done) | omega) | exact Lower.same _ rfl | refine Lower.aggF ?_ | refine Lower.tupF ?_ | refine All2.cons ?_ ?_ | exact All2.nil)
def repairE (w : Wd) (p b : ByteArray) (a : Int) : Wd × Int := if w.state != 3 then (zeroW, 14) else if !nameB p || !nameB b then (zeroW, 6) else if !(decide (0 ≤ a) && decide (a ≤ 1048576)) || decide (a < w.at_) then (zeroW, 15) else (w.made p b a (IntKind.i64.wrap (w.repairs + 1)), 0)
theorem repair_ok (w : Wd) (p b : ByteArray) (a : Int) : Pure Tryd.prog 20 [w.av, .v (.string p), .v (.string b), .v (.int .i64 a)] (resW (repairE w p b a)) := by
  refine fn_pure Tryd.F20 (Nat.le_of_ble_eq_true rfl) ?_; unfold Tryd.ac20
  repeat' (first
    | (apply Awp.sreg; (case hn => (simp only [List.length_cons, List.length_nil, Nat.reduceAdd] <;> rfl)))
    | (apply Awp.sdraw; (case hn => (simp only [List.length_cons, List.length_nil, Nat.reduceAdd] <;> rfl)))
    | (refine st_nil ?_)
    | (apply st_a; (case hc => rfl); (case he => (simp only [go_sem, *] <;> rfl)); (case hu => (simp only [updL_nil, updL_cons] <;> rfl)); (case hp => first | trivial | assumption | omega | (simp; done) | (simp; omega) | (simp [*]; done) | ((repeat' (refine And.intro ?_ ?_)) <;> first | trivial | assumption | omega | (simp; done) | (simp; omega) | (simp [*]; done))))
    | (apply st_m; (case hc => rfl); (case hg => (simp only [go_sem, *] <;> rfl)); (case he => (intro hQz; (try simp only [wantB_t, wantB_f, Bool.and_eq_true, Bool.not_eq_true', Bool.not_true, Bool.not_false, and_true, true_and] at hQz); simp only [go_sem, *] <;> rfl)); (case hp => (intro hQz; (try simp only [wantB_t, wantB_f, Bool.and_eq_true, Bool.not_eq_true', Bool.or_eq_false_iff, decide_eq_true_eq, decide_eq_false_iff_not, beq_iff_eq, beq_eq_false_iff_ne, bne_iff_ne, bne_eq_false_iff_eq, Int.not_lt, Int.not_le, Int.ofNat_lt, Int.ofNat_le] at hQz); first | trivial | assumption | omega | (simp; done) | (simp; omega) | (simp [*]; done) | ((repeat' (refine And.intro ?_ ?_)) <;> first | trivial | assumption | omega | (simp; done) | (simp; omega) | (simp [*]; done)))))
    | (apply st_mc; (case hop => rfl); (case hg => (simp only [go_sem, *] <;> rfl)); (case hc => (intro hQz; (try simp only [wantB_t, wantB_f, Bool.and_eq_true, Bool.not_eq_true', Bool.not_true, Bool.not_false, and_true, true_and] at hQz); simp only [go_sem, *] <;> rfl)); (case hl => (intro hQz; (try simp only [wantB_t, wantB_f, Bool.and_eq_true, Bool.not_eq_true', Bool.not_true, Bool.not_false, and_true, true_and] at hQz); simp only [go_sem, *] <;> rfl)); (case hn => (intro hQz; (try simp only [wantB_t, wantB_f, Bool.and_eq_true, Bool.not_eq_true', Bool.not_true, Bool.not_false, and_true, true_and] at hQz); simp only [go_sem, *] <;> rfl)); (case hp => intro hQz; first | exact name_ok _ | (have hXz := name_ok _; simp only [go_sem, *] at hXz; exact hXz)))
    | (apply st_c; (case hc => (simp only [go_sem, *] <;> rfl)); (case hl => (simp only [go_sem, *] <;> rfl)); (case hn => (simp only [go_sem, *] <;> rfl)); (case hp => first | exact name_ok _ | (have hXz := name_ok _; simp only [go_sem, *] at hXz; exact hXz)))
    | (apply st_cd; (case hc => (simp only [go_sem, *] <;> rfl)); (case hl => (simp only [go_sem, *] <;> rfl)); (case hn => (simp only [go_sem, *] <;> rfl)); (case hp => first | exact name_ok _ | (have hXz := name_ok _; simp only [go_sem, *] at hXz; exact hXz)); (case hd => first | exact .v _ | exact .any | exact .nils); (case hm => first | decide | (simp; done)))
    | (apply st_mc; (case hop => rfl); (case hg => (simp only [go_sem, *] <;> rfl)); (case hc => (intro hQz; (try simp only [wantB_t, wantB_f, Bool.and_eq_true, Bool.not_eq_true', Bool.not_true, Bool.not_false, and_true, true_and] at hQz); simp only [go_sem, *] <;> rfl)); (case hl => (intro hQz; (try simp only [wantB_t, wantB_f, Bool.and_eq_true, Bool.not_eq_true', Bool.not_true, Bool.not_false, and_true, true_and] at hQz); simp only [go_sem, *] <;> rfl)); (case hn => (intro hQz; (try simp only [wantB_t, wantB_f, Bool.and_eq_true, Bool.not_eq_true', Bool.not_true, Bool.not_false, and_true, true_and] at hQz); simp only [go_sem, *] <;> rfl)); (case hp => intro hQz; first | exact from_ok _ _ _ | (have hXz := from_ok _ _ _; simp only [go_sem, *] at hXz; exact hXz)))
    | (apply st_c; (case hc => (simp only [go_sem, *] <;> rfl)); (case hl => (simp only [go_sem, *] <;> rfl)); (case hn => (simp only [go_sem, *] <;> rfl)); (case hp => first | exact from_ok _ _ _ | (have hXz := from_ok _ _ _; simp only [go_sem, *] at hXz; exact hXz)))
    | (apply st_cd; (case hc => (simp only [go_sem, *] <;> rfl)); (case hl => (simp only [go_sem, *] <;> rfl)); (case hn => (simp only [go_sem, *] <;> rfl)); (case hp => first | exact from_ok _ _ _ | (have hXz := from_ok _ _ _; simp only [go_sem, *] at hXz; exact hXz)); (case hd => first | exact .v _ | exact .any | exact .nils); (case hm => first | decide | (simp; done)))
    | (apply st_mc; (case hop => rfl); (case hg => (simp only [go_sem, *] <;> rfl)); (case hc => (intro hQz; (try simp only [wantB_t, wantB_f, Bool.and_eq_true, Bool.not_eq_true', Bool.not_true, Bool.not_false, and_true, true_and] at hQz); simp only [go_sem, *] <;> rfl)); (case hl => (intro hQz; (try simp only [wantB_t, wantB_f, Bool.and_eq_true, Bool.not_eq_true', Bool.not_true, Bool.not_false, and_true, true_and] at hQz); simp only [go_sem, *] <;> rfl)); (case hn => (intro hQz; (try simp only [wantB_t, wantB_f, Bool.and_eq_true, Bool.not_eq_true', Bool.not_true, Bool.not_false, and_true, true_and] at hQz); simp only [go_sem, *] <;> rfl)); (case hp => intro hQz; first | exact welded_ok w p b a 0 | (have hXz := welded_ok w p b a 0; simp only [go_sem, *] at hXz; exact hXz)))
    | (apply st_c; (case hc => (simp only [go_sem, *] <;> rfl)); (case hl => (simp only [go_sem, *] <;> rfl)); (case hn => (simp only [go_sem, *] <;> rfl)); (case hp => first | exact welded_ok w p b a 0 | (have hXz := welded_ok w p b a 0; simp only [go_sem, *] at hXz; exact hXz)))
    | (apply st_cd; (case hc => (simp only [go_sem, *] <;> rfl)); (case hl => (simp only [go_sem, *] <;> rfl)); (case hn => (simp only [go_sem, *] <;> rfl)); (case hp => first | exact welded_ok w p b a 0 | (have hXz := welded_ok w p b a 0; simp only [go_sem, *] at hXz; exact hXz)); (case hd => first | exact .v _ | exact .any | exact .nils); (case hm => first | decide | (simp; done)))
    | (apply st_mc; (case hop => rfl); (case hg => (simp only [go_sem, *] <;> rfl)); (case hc => (intro hQz; (try simp only [wantB_t, wantB_f, Bool.and_eq_true, Bool.not_eq_true', Bool.not_true, Bool.not_false, and_true, true_and] at hQz); simp only [go_sem, *] <;> rfl)); (case hl => (intro hQz; (try simp only [wantB_t, wantB_f, Bool.and_eq_true, Bool.not_eq_true', Bool.not_true, Bool.not_false, and_true, true_and] at hQz); simp only [go_sem, *] <;> rfl)); (case hn => (intro hQz; (try simp only [wantB_t, wantB_f, Bool.and_eq_true, Bool.not_eq_true', Bool.not_true, Bool.not_false, and_true, true_and] at hQz); simp only [go_sem, *] <;> rfl)); (case hp => intro hQz; first | exact welded_ok w p b a (IntKind.i64.wrap (w.repairs + 1)) | (have hXz := welded_ok w p b a (IntKind.i64.wrap (w.repairs + 1)); simp only [go_sem, *] at hXz; exact hXz)))
    | (apply st_c; (case hc => (simp only [go_sem, *] <;> rfl)); (case hl => (simp only [go_sem, *] <;> rfl)); (case hn => (simp only [go_sem, *] <;> rfl)); (case hp => first | exact welded_ok w p b a (IntKind.i64.wrap (w.repairs + 1)) | (have hXz := welded_ok w p b a (IntKind.i64.wrap (w.repairs + 1)); simp only [go_sem, *] at hXz; exact hXz)))
    | (apply st_cd; (case hc => (simp only [go_sem, *] <;> rfl)); (case hl => (simp only [go_sem, *] <;> rfl)); (case hn => (simp only [go_sem, *] <;> rfl)); (case hp => first | exact welded_ok w p b a (IntKind.i64.wrap (w.repairs + 1)) | (have hXz := welded_ok w p b a (IntKind.i64.wrap (w.repairs + 1)); simp only [go_sem, *] at hXz; exact hXz)); (case hd => first | exact .v _ | exact .any | exact .nils); (case hm => first | decide | (simp; done)))
    | (apply st_gu; (case hv => (simp only [go_sem, *] <;> rfl)))
    | (apply st_g; (case hv => (simp only [go_sem, *] <;> rfl)); all_goals (intro hg; (try simp only [Bool.not_true, Bool.not_false, reduceCtorEq] at hg)))
    | (apply Awp.reg; (case hn => (simp only [List.length_cons, List.length_nil, Nat.reduceAdd] <;> rfl)))
    | (refine Awp.ret ?_; try simp only [go_sem, *])
    | (refine Awp.skip ?_; try simp only [go_sem, *])
    | (refine Awp.exit ?_; try simp only [go_sem, *])
    | refine Awp.scope ?_
    | refine Awp.block ?_
    | (apply Awp.cond; (case hc => (simp only [go_sem, *] <;> rfl)); all_goals (intro hg; (try simp only [Bool.not_true, Bool.not_false, reduceCtorEq] at hg)))
    | refine Awp.seq ?_)
  all_goals simp only [repairE, resW, Bool.false_eq_true, reduceIte, *]
  all_goals repeat' (first | exact Lower.any _ | exact Lower.bool (by first | rfl | (simp only [zeroW, ints, Bool.true_and, Bool.false_and, Bool.and_true, Bool.and_false, Bool.true_or, Bool.false_or, reduceIte, Bool.false_eq_true, *]; done) | (simp only [zeroW, ints, reduceIte, Bool.false_eq_true, *] <;> rfl) | (simp [zeroW, ints]; done) | (simp_all [zeroW, ints]; done) | omega) | exact Lower.int (by first | rfl | (simp only [zeroW, ints, Bool.true_and, Bool.false_and, Bool.and_true, Bool.and_false, Bool.true_or, Bool.false_or, reduceIte, Bool.false_eq_true, *]; done) | (simp only [zeroW, ints, reduceIte, Bool.false_eq_true, *] <;> rfl) | (simp [zeroW, ints]; done) | (simp_all [zeroW, ints]; done) | omega) | exact Lower.str (by first | rfl | (simp only [zeroW, ints, Bool.true_and, Bool.false_and, Bool.and_true, Bool.and_false, Bool.true_or, Bool.false_or, reduceIte, Bool.false_eq_true, *]; done) | (simp only [zeroW, ints, reduceIte, Bool.false_eq_true, *] <;> rfl) | (simp [zeroW, ints]; done) | (simp_all [zeroW, ints]; done) | omega) | exact Lower.ownE (by simp only [go_sem, *] <;> rfl) (by first | rfl | (simp only [zeroW, ints, Bool.true_and, Bool.false_and, Bool.and_true, Bool.and_false, Bool.true_or, Bool.false_or, reduceIte, Bool.false_eq_true, *]; done) | (simp only [zeroW, ints, reduceIte, Bool.false_eq_true, *] <;> rfl) | (simp [zeroW, ints]; done) | (simp_all [zeroW, ints]; done) | omega) | exact Lower.nilE (by first | rfl | (simp only [zeroW, ints, Bool.true_and, Bool.false_and, Bool.and_true, Bool.and_false, Bool.true_or, Bool.false_or, reduceIte, Bool.false_eq_true, *]; done) | (simp only [zeroW, ints, reduceIte, Bool.false_eq_true, *] <;> rfl) | (simp [zeroW, ints]; done) | (simp_all [zeroW, ints]; done) | omega) | exact Lower.slE' (by first | rfl | (simp only [zeroW, ints, Bool.true_and, Bool.false_and, Bool.and_true, Bool.and_false, Bool.true_or, Bool.false_or, reduceIte, Bool.false_eq_true, *]; done) | (simp only [zeroW, ints, reduceIte, Bool.false_eq_true, *] <;> rfl) | (simp [zeroW, ints]; done) | (simp_all [zeroW, ints]; done) | omega) | exact Lower.same _ rfl | refine Lower.aggF ?_ | refine Lower.tupF ?_ | refine All2.cons ?_ ?_ | exact All2.nil)
theorem rrepair_ok (w : Wd) (p b : ByteArray) (a : Int) : Pure Tryd.prog 21 [w.av, .v (.string p), .v (.string b), .v (.int .i64 a)] (resW (repairE w p b a)) := by
  refine fn_pure Tryd.F21 (Nat.le_of_ble_eq_true rfl) ?_; unfold Tryd.ac21
  repeat' (first
    | (apply Awp.sreg; (case hn => (simp only [List.length_cons, List.length_nil, Nat.reduceAdd] <;> rfl)))
    | (apply Awp.sdraw; (case hn => (simp only [List.length_cons, List.length_nil, Nat.reduceAdd] <;> rfl)))
    | (refine st_nil ?_)
    | (apply st_a; (case hc => rfl); (case he => (simp only [go_sem, *] <;> rfl)); (case hu => (simp only [updL_nil, updL_cons] <;> rfl)); (case hp => first | trivial | assumption | omega | (simp; done) | (simp; omega) | (simp [*]; done) | ((repeat' (refine And.intro ?_ ?_)) <;> first | trivial | assumption | omega | (simp; done) | (simp; omega) | (simp [*]; done))))
    | (apply st_m; (case hc => rfl); (case hg => (simp only [go_sem, *] <;> rfl)); (case he => (intro hQz; (try simp only [wantB_t, wantB_f, Bool.and_eq_true, Bool.not_eq_true', Bool.not_true, Bool.not_false, and_true, true_and] at hQz); simp only [go_sem, *] <;> rfl)); (case hp => (intro hQz; (try simp only [wantB_t, wantB_f, Bool.and_eq_true, Bool.not_eq_true', Bool.or_eq_false_iff, decide_eq_true_eq, decide_eq_false_iff_not, beq_iff_eq, beq_eq_false_iff_ne, bne_iff_ne, bne_eq_false_iff_eq, Int.not_lt, Int.not_le, Int.ofNat_lt, Int.ofNat_le] at hQz); first | trivial | assumption | omega | (simp; done) | (simp; omega) | (simp [*]; done) | ((repeat' (refine And.intro ?_ ?_)) <;> first | trivial | assumption | omega | (simp; done) | (simp; omega) | (simp [*]; done)))))
    | (apply st_mc; (case hop => rfl); (case hg => (simp only [go_sem, *] <;> rfl)); (case hc => (intro hQz; (try simp only [wantB_t, wantB_f, Bool.and_eq_true, Bool.not_eq_true', Bool.not_true, Bool.not_false, and_true, true_and] at hQz); simp only [go_sem, *] <;> rfl)); (case hl => (intro hQz; (try simp only [wantB_t, wantB_f, Bool.and_eq_true, Bool.not_eq_true', Bool.not_true, Bool.not_false, and_true, true_and] at hQz); simp only [go_sem, *] <;> rfl)); (case hn => (intro hQz; (try simp only [wantB_t, wantB_f, Bool.and_eq_true, Bool.not_eq_true', Bool.not_true, Bool.not_false, and_true, true_and] at hQz); simp only [go_sem, *] <;> rfl)); (case hp => intro hQz; first | exact rname_ok _ | (have hXz := rname_ok _; simp only [go_sem, *] at hXz; exact hXz)))
    | (apply st_c; (case hc => (simp only [go_sem, *] <;> rfl)); (case hl => (simp only [go_sem, *] <;> rfl)); (case hn => (simp only [go_sem, *] <;> rfl)); (case hp => first | exact rname_ok _ | (have hXz := rname_ok _; simp only [go_sem, *] at hXz; exact hXz)))
    | (apply st_cd; (case hc => (simp only [go_sem, *] <;> rfl)); (case hl => (simp only [go_sem, *] <;> rfl)); (case hn => (simp only [go_sem, *] <;> rfl)); (case hp => first | exact rname_ok _ | (have hXz := rname_ok _; simp only [go_sem, *] at hXz; exact hXz)); (case hd => first | exact .v _ | exact .any | exact .nils); (case hm => first | decide | (simp; done)))
    | (apply st_mc; (case hop => rfl); (case hg => (simp only [go_sem, *] <;> rfl)); (case hc => (intro hQz; (try simp only [wantB_t, wantB_f, Bool.and_eq_true, Bool.not_eq_true', Bool.not_true, Bool.not_false, and_true, true_and] at hQz); simp only [go_sem, *] <;> rfl)); (case hl => (intro hQz; (try simp only [wantB_t, wantB_f, Bool.and_eq_true, Bool.not_eq_true', Bool.not_true, Bool.not_false, and_true, true_and] at hQz); simp only [go_sem, *] <;> rfl)); (case hn => (intro hQz; (try simp only [wantB_t, wantB_f, Bool.and_eq_true, Bool.not_eq_true', Bool.not_true, Bool.not_false, and_true, true_and] at hQz); simp only [go_sem, *] <;> rfl)); (case hp => intro hQz; first | exact rmade_ok w p b a 0 | (have hXz := rmade_ok w p b a 0; simp only [go_sem, *] at hXz; exact hXz)))
    | (apply st_c; (case hc => (simp only [go_sem, *] <;> rfl)); (case hl => (simp only [go_sem, *] <;> rfl)); (case hn => (simp only [go_sem, *] <;> rfl)); (case hp => first | exact rmade_ok w p b a 0 | (have hXz := rmade_ok w p b a 0; simp only [go_sem, *] at hXz; exact hXz)))
    | (apply st_cd; (case hc => (simp only [go_sem, *] <;> rfl)); (case hl => (simp only [go_sem, *] <;> rfl)); (case hn => (simp only [go_sem, *] <;> rfl)); (case hp => first | exact rmade_ok w p b a 0 | (have hXz := rmade_ok w p b a 0; simp only [go_sem, *] at hXz; exact hXz)); (case hd => first | exact .v _ | exact .any | exact .nils); (case hm => first | decide | (simp; done)))
    | (apply st_mc; (case hop => rfl); (case hg => (simp only [go_sem, *] <;> rfl)); (case hc => (intro hQz; (try simp only [wantB_t, wantB_f, Bool.and_eq_true, Bool.not_eq_true', Bool.not_true, Bool.not_false, and_true, true_and] at hQz); simp only [go_sem, *] <;> rfl)); (case hl => (intro hQz; (try simp only [wantB_t, wantB_f, Bool.and_eq_true, Bool.not_eq_true', Bool.not_true, Bool.not_false, and_true, true_and] at hQz); simp only [go_sem, *] <;> rfl)); (case hn => (intro hQz; (try simp only [wantB_t, wantB_f, Bool.and_eq_true, Bool.not_eq_true', Bool.not_true, Bool.not_false, and_true, true_and] at hQz); simp only [go_sem, *] <;> rfl)); (case hp => intro hQz; first | exact rmade_ok w p b a (IntKind.i64.wrap (w.repairs + 1)) | (have hXz := rmade_ok w p b a (IntKind.i64.wrap (w.repairs + 1)); simp only [go_sem, *] at hXz; exact hXz)))
    | (apply st_c; (case hc => (simp only [go_sem, *] <;> rfl)); (case hl => (simp only [go_sem, *] <;> rfl)); (case hn => (simp only [go_sem, *] <;> rfl)); (case hp => first | exact rmade_ok w p b a (IntKind.i64.wrap (w.repairs + 1)) | (have hXz := rmade_ok w p b a (IntKind.i64.wrap (w.repairs + 1)); simp only [go_sem, *] at hXz; exact hXz)))
    | (apply st_cd; (case hc => (simp only [go_sem, *] <;> rfl)); (case hl => (simp only [go_sem, *] <;> rfl)); (case hn => (simp only [go_sem, *] <;> rfl)); (case hp => first | exact rmade_ok w p b a (IntKind.i64.wrap (w.repairs + 1)) | (have hXz := rmade_ok w p b a (IntKind.i64.wrap (w.repairs + 1)); simp only [go_sem, *] at hXz; exact hXz)); (case hd => first | exact .v _ | exact .any | exact .nils); (case hm => first | decide | (simp; done)))
    | (apply st_gu; (case hv => (simp only [go_sem, *] <;> rfl)))
    | (apply st_g; (case hv => (simp only [go_sem, *] <;> rfl)); all_goals (intro hg; (try simp only [Bool.not_true, Bool.not_false, reduceCtorEq] at hg)))
    | (apply Awp.reg; (case hn => (simp only [List.length_cons, List.length_nil, Nat.reduceAdd] <;> rfl)))
    | (refine Awp.ret ?_; try simp only [go_sem, *])
    | (refine Awp.skip ?_; try simp only [go_sem, *])
    | (refine Awp.exit ?_; try simp only [go_sem, *])
    | refine Awp.scope ?_
    | refine Awp.block ?_
    | (apply Awp.cond; (case hc => (simp only [go_sem, *] <;> rfl)); all_goals (intro hg; (try simp only [Bool.not_true, Bool.not_false, reduceCtorEq] at hg)))
    | refine Awp.seq ?_)
  all_goals simp only [repairE, ranges, resW, Bool.false_eq_true, reduceIte, *]
  all_goals repeat' (first | exact Lower.any _ | exact Lower.bool (by first | rfl | (simp only [zeroW, ints, Bool.true_and, Bool.false_and, Bool.and_true, Bool.and_false, Bool.true_or, Bool.false_or, reduceIte, Bool.false_eq_true, *]; done) | (simp only [zeroW, ints, reduceIte, Bool.false_eq_true, *] <;> rfl) | (simp [zeroW, ints]; done) | (simp_all [zeroW, ints]; done) | omega) | exact Lower.int (by first | rfl | (simp only [zeroW, ints, Bool.true_and, Bool.false_and, Bool.and_true, Bool.and_false, Bool.true_or, Bool.false_or, reduceIte, Bool.false_eq_true, *]; done) | (simp only [zeroW, ints, reduceIte, Bool.false_eq_true, *] <;> rfl) | (simp [zeroW, ints]; done) | (simp_all [zeroW, ints]; done) | omega) | exact Lower.str (by first | rfl | (simp only [zeroW, ints, Bool.true_and, Bool.false_and, Bool.and_true, Bool.and_false, Bool.true_or, Bool.false_or, reduceIte, Bool.false_eq_true, *]; done) | (simp only [zeroW, ints, reduceIte, Bool.false_eq_true, *] <;> rfl) | (simp [zeroW, ints]; done) | (simp_all [zeroW, ints]; done) | omega) | exact Lower.ownE (by simp only [go_sem, *] <;> rfl) (by first | rfl | (simp only [zeroW, ints, Bool.true_and, Bool.false_and, Bool.and_true, Bool.and_false, Bool.true_or, Bool.false_or, reduceIte, Bool.false_eq_true, *]; done) | (simp only [zeroW, ints, reduceIte, Bool.false_eq_true, *] <;> rfl) | (simp [zeroW, ints]; done) | (simp_all [zeroW, ints]; done) | omega) | exact Lower.nilE (by first | rfl | (simp only [zeroW, ints, Bool.true_and, Bool.false_and, Bool.and_true, Bool.and_false, Bool.true_or, Bool.false_or, reduceIte, Bool.false_eq_true, *]; done) | (simp only [zeroW, ints, reduceIte, Bool.false_eq_true, *] <;> rfl) | (simp [zeroW, ints]; done) | (simp_all [zeroW, ints]; done) | omega) | exact Lower.slE' (by first | rfl | (simp only [zeroW, ints, Bool.true_and, Bool.false_and, Bool.and_true, Bool.and_false, Bool.true_or, Bool.false_or, reduceIte, Bool.false_eq_true, *]; done) | (simp only [zeroW, ints, reduceIte, Bool.false_eq_true, *] <;> rfl) | (simp [zeroW, ints]; done) | (simp_all [zeroW, ints]; done) | omega) | exact Lower.same _ rfl | refine Lower.aggF ?_ | refine Lower.tupF ?_ | refine All2.cons ?_ ?_ | exact All2.nil)
end Go.Proofs
end
section
set_option linter.unusedVariables false
set_option linter.unusedSimpArgs false
namespace Go.Proofs
open Go Go.Ab
set_option maxHeartbeats 4000000
set_option maxRecDepth 100000
set_option linter.unusedSimpArgs false
set_option linter.unusedVariables false
def ascB (l : List Int) : Bool := (List.range (l.length - 1)).all fun i => decide (l.getD i 0 < l.getD (i + 1) 0)
theorem ascB_bad {l : List Int} {i : Nat} (h : i < l.length) (h1 : 1 ≤ i) (e : l.getD i 0 ≤ l.getD (i - 1) 0) : ascB l = false := by
  simp only [ascB, List.all_eq_false, List.mem_range]
  refine ⟨i - 1, by omega, ?_⟩
  rw [show i - 1 + 1 = i by omega, decide_eq_true_eq]
  omega
theorem ascB_end {l : List Int} {i : Nat} (h : ∀ j, j + 1 < i → l.getD j 0 < l.getD (j + 1) 0) (h1 : l.length ≤ i) : ascB l = true := by
  simp only [ascB, List.all_eq_true, List.mem_range, decide_eq_true_eq]
  exact fun j hj => h j (by omega)
def stB (w : Wd) (k : Int) : Bool := (true ^^ ((w.state == 4) == allIn w.passed (methods k w.cls))) || (w.state == 3 && decide (2 ≤ w.repairs)) || (w.state == 5 && w.repairs != 2)
def madeE (w : Wd) (k : Int) : Int :=
  if !nameB w.proc || !nameB w.by_ then 6 else if !(decide (0 ≤ w.at_) && decide (w.at_ ≤ 1048576)) then 15 else if !(decide (0 ≤ w.repairs) && decide (w.repairs ≤ 2)) then 9
  else if !ascB w.passed then 11 else if !allIn (methods k w.cls) w.passed then 32 else if stB w k then 14 else 0
attribute [local irreducible] Awp aops aopsL Go.Ab.Pure PureOwn
theorem made_ok (w : Wd) (k : Int) (hl : w.passed.length < 1000000) : Pure Tryd.prog 29 [w.av, .v (.int .i64 k)] (.v (.int .i64 (madeE w k))) := by
  have hm := methods_len k w.cls
  refine fn_pure Tryd.F29 (Nat.le_of_ble_eq_true rfl) ?_; unfold Tryd.ac29
  repeat' (first
    | (apply Awp.sreg; (case hn => (simp only [List.length_cons, List.length_nil, Nat.reduceAdd] <;> rfl)))
    | (apply Awp.sdraw; (case hn => (simp only [List.length_cons, List.length_nil, Nat.reduceAdd] <;> rfl)))
    | (refine st_nil ?_)
    | (apply st_a; (case hc => rfl); (case he => (simp only [go_sem, *] <;> rfl)); (case hu => (simp only [updL_nil, updL_cons] <;> rfl)); (case hp => first | trivial | assumption | omega | (simp; done) | (simp; omega) | (simp [*]; done) | ((repeat' (refine And.intro ?_ ?_)) <;> first | trivial | assumption | omega | (simp; done) | (simp; omega) | (simp [*]; done))))
    | (apply st_m; (case hc => rfl); (case hg => (simp only [go_sem, *] <;> rfl)); (case he => (intro hQz; (try simp only [wantB_t, wantB_f, Bool.and_eq_true, Bool.not_eq_true', Bool.not_true, Bool.not_false, and_true, true_and] at hQz); simp only [go_sem, *] <;> rfl)); (case hp => (intro hQz; (try simp only [wantB_t, wantB_f, Bool.and_eq_true, Bool.not_eq_true', Bool.or_eq_false_iff, decide_eq_true_eq, decide_eq_false_iff_not, beq_iff_eq, beq_eq_false_iff_ne, bne_iff_ne, bne_eq_false_iff_eq, Int.not_lt, Int.not_le, Int.ofNat_lt, Int.ofNat_le] at hQz); first | trivial | assumption | omega | (simp; done) | (simp; omega) | (simp [*]; done) | ((repeat' (refine And.intro ?_ ?_)) <;> first | trivial | assumption | omega | (simp; done) | (simp; omega) | (simp [*]; done)))))
    | (apply st_mc; (case hop => rfl); (case hg => (simp only [go_sem, *] <;> rfl)); (case hc => (intro hQz; (try simp only [wantB_t, wantB_f, Bool.and_eq_true, Bool.not_eq_true', Bool.not_true, Bool.not_false, and_true, true_and] at hQz); simp only [go_sem, *] <;> rfl)); (case hl => (intro hQz; (try simp only [wantB_t, wantB_f, Bool.and_eq_true, Bool.not_eq_true', Bool.not_true, Bool.not_false, and_true, true_and] at hQz); simp only [go_sem, *] <;> rfl)); (case hn => (intro hQz; (try simp only [wantB_t, wantB_f, Bool.and_eq_true, Bool.not_eq_true', Bool.not_true, Bool.not_false, and_true, true_and] at hQz); simp only [go_sem, *] <;> rfl)); (case hp => intro hQz; first | exact name_ok _ | (have hXz := name_ok _; simp only [go_sem, *] at hXz; exact hXz)))
    | (apply st_c; (case hc => (simp only [go_sem, *] <;> rfl)); (case hl => (simp only [go_sem, *] <;> rfl)); (case hn => (simp only [go_sem, *] <;> rfl)); (case hp => first | exact name_ok _ | (have hXz := name_ok _; simp only [go_sem, *] at hXz; exact hXz)))
    | (apply st_cd; (case hc => (simp only [go_sem, *] <;> rfl)); (case hl => (simp only [go_sem, *] <;> rfl)); (case hn => (simp only [go_sem, *] <;> rfl)); (case hp => first | exact name_ok _ | (have hXz := name_ok _; simp only [go_sem, *] at hXz; exact hXz)); (case hd => first | exact .v _ | exact .any | exact .nils); (case hm => first | decide | (simp; done)))
    | (apply st_mc; (case hop => rfl); (case hg => (simp only [go_sem, *] <;> rfl)); (case hc => (intro hQz; (try simp only [wantB_t, wantB_f, Bool.and_eq_true, Bool.not_eq_true', Bool.not_true, Bool.not_false, and_true, true_and] at hQz); simp only [go_sem, *] <;> rfl)); (case hl => (intro hQz; (try simp only [wantB_t, wantB_f, Bool.and_eq_true, Bool.not_eq_true', Bool.not_true, Bool.not_false, and_true, true_and] at hQz); simp only [go_sem, *] <;> rfl)); (case hn => (intro hQz; (try simp only [wantB_t, wantB_f, Bool.and_eq_true, Bool.not_eq_true', Bool.not_true, Bool.not_false, and_true, true_and] at hQz); simp only [go_sem, *] <;> rfl)); (case hp => intro hQz; first | exact from_ok _ _ _ | (have hXz := from_ok _ _ _; simp only [go_sem, *] at hXz; exact hXz)))
    | (apply st_c; (case hc => (simp only [go_sem, *] <;> rfl)); (case hl => (simp only [go_sem, *] <;> rfl)); (case hn => (simp only [go_sem, *] <;> rfl)); (case hp => first | exact from_ok _ _ _ | (have hXz := from_ok _ _ _; simp only [go_sem, *] at hXz; exact hXz)))
    | (apply st_cd; (case hc => (simp only [go_sem, *] <;> rfl)); (case hl => (simp only [go_sem, *] <;> rfl)); (case hn => (simp only [go_sem, *] <;> rfl)); (case hp => first | exact from_ok _ _ _ | (have hXz := from_ok _ _ _; simp only [go_sem, *] at hXz; exact hXz)); (case hd => first | exact .v _ | exact .any | exact .nils); (case hm => first | decide | (simp; done)))
    | (apply st_gu; (case hv => (simp only [go_sem, *] <;> rfl)))
    | (apply st_g; (case hv => (simp only [go_sem, *] <;> rfl)); all_goals (intro hg; (try simp only [Bool.not_true, Bool.not_false, reduceCtorEq] at hg)))
    | (apply Awp.reg; (case hn => (simp only [List.length_cons, List.length_nil, Nat.reduceAdd] <;> rfl)))
    | (refine Awp.ret ?_; try simp only [go_sem, *])
    | (refine Awp.skip ?_; try simp only [go_sem, *])
    | (refine Awp.exit ?_; try simp only [go_sem, *])
    | refine Awp.scope ?_
    | refine Awp.block ?_
    | (apply Awp.cond; (case hc => (simp only [go_sem, *] <;> rfl)); all_goals (intro hg; (try simp only [Bool.not_true, Bool.not_false, reduceCtorEq] at hg)))
    | refine Awp.seq ?_)
  · exact Lower.int (by rw [madeE, if_pos hg])
  · rename_i g1
    exact Lower.int (by rw [madeE, if_neg (by rw [g1]; decide), if_pos hg])
  · rename_i g1 g2
    exact Lower.int (by rw [madeE, if_neg (by rw [g1]; decide), if_neg (by rw [g2]; decide), if_pos hg])
  · rename_i g1 g2
    have g3 := hg
    clear hg
    refine Awp.loop (fun i : Nat => 1 ≤ i ∧ (i ≤ w.passed.length ∨ i = 1) ∧ ∀ j, j + 1 < i → w.passed.getD j 0 < w.passed.getD (j + 1) 0) 1 (fun i => mkS [(1, .v (.int .i64 k)), (2, .bp 0 0), (5, .v (.int .i64 i))] [(0, .box w.cells)]) (fun i => w.passed.length - i) 1 ⟨Nat.le_refl _, .inr rfl, fun j hj => by omega⟩ ?_ ?_
    · (apply Ghost.mk [] []; (case hdead => rfl); (case hinj => rfl); (case hV => (simp only [go_sem, *]) <;> (repeat' (first | refine And.intro ?_ ?_ | exact View.int (by first | rfl | omega | (simp; done) | (rw [wrap_i64] <;> (try simp only [Int.natCast_add]) <;> omega) | (simp [*]; done)) | exact View.bool (by first | rfl | omega | (simp; done) | (rw [wrap_i64] <;> (try simp only [Int.natCast_add]) <;> omega) | (simp [*]; done)) | exact View.str (by first | rfl | omega | (simp; done) | (rw [wrap_i64] <;> (try simp only [Int.natCast_add]) <;> omega) | (simp [*]; done)) | exact View.slE (by first | rfl | omega | (simp; done) | (rw [wrap_i64] <;> (try simp only [Int.natCast_add]) <;> omega) | (simp [*]; done)) | exact .any _ | exact .bp rfl (by decide) | exact .own rfl (by decide) | exact .ep rfl (by decide)))); (case hB => (simp only [go_sem, *]) <;> (repeat' (first | refine And.intro ?_ ?_ | decide | exact ⟨_, rfl, .rowE (by first | rfl | omega | (simp; done) | (rw [wrap_i64] <;> (try simp only [Int.natCast_add]) <;> omega) | (simp [*]; done))⟩ | exact ⟨_, rfl, .iterE (by first | rfl | omega | (simp; done) | (rw [wrap_i64] <;> (try simp only [Int.natCast_add]) <;> omega) | (simp [*]; done))⟩ | exact ⟨_, rfl, BView.boxF rfl⟩))))
    · intro i ⟨hi1, hi, hj⟩
      have e1 : IntKind.i64.wrap ((i : Int) - 1) = ((i - 1 : Nat) : Int) := by rw [wrap_i64] <;> omega
      by_cases hlt : i < w.passed.length
      · have hlt' : (i : Int) < w.passed.length := by omega
        have hlt2 : i - 1 < w.passed.length := by omega
        repeat' (first
    | (apply Awp.sreg; (case hn => (simp only [List.length_cons, List.length_nil, Nat.reduceAdd] <;> rfl)))
    | (apply Awp.sdraw; (case hn => (simp only [List.length_cons, List.length_nil, Nat.reduceAdd] <;> rfl)))
    | (refine st_nil ?_)
    | (apply st_a; (case hc => rfl); (case he => (simp only [go_sem, *] <;> rfl)); (case hu => (simp only [updL_nil, updL_cons] <;> rfl)); (case hp => first | trivial | assumption | omega | (simp; done) | (simp; omega) | (simp [*]; done) | ((repeat' (refine And.intro ?_ ?_)) <;> first | trivial | assumption | omega | (simp; done) | (simp; omega) | (simp [*]; done))))
    | (apply st_m; (case hc => rfl); (case hg => (simp only [go_sem, *] <;> rfl)); (case he => (intro hQz; (try simp only [wantB_t, wantB_f, Bool.and_eq_true, Bool.not_eq_true', Bool.not_true, Bool.not_false, and_true, true_and] at hQz); simp only [go_sem, *] <;> rfl)); (case hp => (intro hQz; (try simp only [wantB_t, wantB_f, Bool.and_eq_true, Bool.not_eq_true', Bool.or_eq_false_iff, decide_eq_true_eq, decide_eq_false_iff_not, beq_iff_eq, beq_eq_false_iff_ne, bne_iff_ne, bne_eq_false_iff_eq, Int.not_lt, Int.not_le, Int.ofNat_lt, Int.ofNat_le] at hQz); first | trivial | assumption | omega | (simp; done) | (simp; omega) | (simp [*]; done) | ((repeat' (refine And.intro ?_ ?_)) <;> first | trivial | assumption | omega | (simp; done) | (simp; omega) | (simp [*]; done)))))
    | (apply st_gu; (case hv => (simp only [go_sem, *] <;> rfl)))
    | (apply st_g; (case hv => (simp only [go_sem, *] <;> rfl)); all_goals (intro hg; (try simp only [Bool.not_true, Bool.not_false, reduceCtorEq] at hg)))
    | (apply Awp.reg; (case hn => (simp only [List.length_cons, List.length_nil, Nat.reduceAdd] <;> rfl)))
    | (refine Awp.ret ?_; try simp only [go_sem, *])
    | (refine Awp.skip ?_; try simp only [go_sem, *])
    | (refine Awp.exit ?_; try simp only [go_sem, *])
    | refine Awp.scope ?_
    | refine Awp.block ?_
    | (apply Awp.cond; (case hc => (simp only [go_sem, *] <;> rfl)); all_goals (intro hg; (try simp only [Bool.not_true, Bool.not_false, reduceCtorEq] at hg)))
    | refine Awp.seq ?_
    | (refine Awp.draw ?_)
    | (apply sl_a; (case hc => rfl); (case he => (simp only [go_sem, *] <;> rfl)); (case hu => (simp only [updL_nil, updL_cons] <;> rfl)); (case hl => (simp only [List.map_cons, List.map_nil] <;> rfl)); (case hp => first | trivial | assumption | omega | (simp; done) | (simp; omega) | (simp [*]; done) | ((repeat' (refine And.intro ?_ ?_)) <;> first | trivial | assumption | omega | (simp; done) | (simp; omega) | (simp [*]; done))))
    | (apply sl_gu; (case hv => (simp only [go_sem, *] <;> rfl)))
    | (apply sl_gn; (case hv => (simp only [go_sem, *] <;> rfl)); (case hbw => rfl))
    | (apply sl_ga; (case hb => rfl); (case hv => (simp only [go_sem, *] <;> rfl)); (case he => (simp only [go_sem, *] <;> rfl)); (case hu => (simp only [updL_nil, updL_cons] <;> rfl)); (case hl => (simp only [List.map_cons, List.map_nil] <;> rfl)); (case hp => first | trivial | assumption | omega | (simp; done) | (simp; omega) | (simp [*]; done) | ((repeat' (refine And.intro ?_ ?_)) <;> first | trivial | assumption | omega | (simp; done) | (simp; omega) | (simp [*]; done))))
    | (apply sl_case; (case hv => (simp only [go_sem, *] <;> rfl)); all_goals (intro hg; (try simp only [Bool.not_true, Bool.not_false, reduceCtorEq] at hg)))
    | (refine sl_nil (And.intro (by first | exact drawOk_of (by decide +kernel) | decide) ?_)))
        · simp only [decide_eq_true_eq] at hg
          exact Lower.int (by rw [madeE, if_neg (by rw [g1]; decide), if_neg (by rw [g2]; decide), if_neg (by rw [g3]; decide), ascB_bad hlt hi1 hg]; rfl)
        · simp only [decide_eq_false_iff_not, Int.not_le] at hg
          refine ⟨i + 1, ⟨by omega, by omega, fun j h => ?_⟩, by omega, ?_⟩
          · rcases Nat.lt_or_ge (j + 1) i with h' | h'
            · exact hj j h'
            · have : j = i - 1 := by omega
              subst this
              rw [show i - 1 + 1 = i by omega]
              exact hg
          · (apply Ghost.mk [] []; (case hdead => rfl); (case hinj => rfl); (case hV => (simp only [go_sem, *]) <;> (repeat' (first | refine And.intro ?_ ?_ | exact View.int (by first | rfl | omega | (simp; done) | (rw [wrap_i64] <;> (try simp only [Int.natCast_add]) <;> omega) | (simp [*]; done)) | exact View.bool (by first | rfl | omega | (simp; done) | (rw [wrap_i64] <;> (try simp only [Int.natCast_add]) <;> omega) | (simp [*]; done)) | exact View.str (by first | rfl | omega | (simp; done) | (rw [wrap_i64] <;> (try simp only [Int.natCast_add]) <;> omega) | (simp [*]; done)) | exact View.slE (by first | rfl | omega | (simp; done) | (rw [wrap_i64] <;> (try simp only [Int.natCast_add]) <;> omega) | (simp [*]; done)) | exact .any _ | exact .bp rfl (by decide) | exact .own rfl (by decide) | exact .ep rfl (by decide)))); (case hB => (simp only [go_sem, *]) <;> (repeat' (first | refine And.intro ?_ ?_ | decide | exact ⟨_, rfl, .rowE (by first | rfl | omega | (simp; done) | (rw [wrap_i64] <;> (try simp only [Int.natCast_add]) <;> omega) | (simp [*]; done))⟩ | exact ⟨_, rfl, .iterE (by first | rfl | omega | (simp; done) | (rw [wrap_i64] <;> (try simp only [Int.natCast_add]) <;> omega) | (simp [*]; done))⟩ | exact ⟨_, rfl, BView.boxF rfl⟩))))
      · have hlt' : ¬ (i : Int) < w.passed.length := by omega
        have ha := ascB_end hj (Nat.le_of_not_lt hlt)
        repeat' (first
    | (apply Awp.sreg; (case hn => (simp only [List.length_cons, List.length_nil, Nat.reduceAdd] <;> rfl)))
    | (apply Awp.sdraw; (case hn => (simp only [List.length_cons, List.length_nil, Nat.reduceAdd] <;> rfl)))
    | (refine st_nil ?_)
    | (apply st_a; (case hc => rfl); (case he => (simp only [go_sem, *] <;> rfl)); (case hu => (simp only [updL_nil, updL_cons] <;> rfl)); (case hp => first | trivial | assumption | omega | (simp; done) | (simp; omega) | (simp [*]; done) | ((repeat' (refine And.intro ?_ ?_)) <;> first | trivial | assumption | omega | (simp; done) | (simp; omega) | (simp [*]; done))))
    | (apply st_m; (case hc => rfl); (case hg => (simp only [go_sem, *] <;> rfl)); (case he => (intro hQz; (try simp only [wantB_t, wantB_f, Bool.and_eq_true, Bool.not_eq_true', Bool.not_true, Bool.not_false, and_true, true_and] at hQz); simp only [go_sem, *] <;> rfl)); (case hp => (intro hQz; (try simp only [wantB_t, wantB_f, Bool.and_eq_true, Bool.not_eq_true', Bool.or_eq_false_iff, decide_eq_true_eq, decide_eq_false_iff_not, beq_iff_eq, beq_eq_false_iff_ne, bne_iff_ne, bne_eq_false_iff_eq, Int.not_lt, Int.not_le, Int.ofNat_lt, Int.ofNat_le] at hQz); first | trivial | assumption | omega | (simp; done) | (simp; omega) | (simp [*]; done) | ((repeat' (refine And.intro ?_ ?_)) <;> first | trivial | assumption | omega | (simp; done) | (simp; omega) | (simp [*]; done)))))
    | (apply st_mc; (case hop => rfl); (case hg => (simp only [go_sem, *] <;> rfl)); (case hc => (intro hQz; (try simp only [wantB_t, wantB_f, Bool.and_eq_true, Bool.not_eq_true', Bool.not_true, Bool.not_false, and_true, true_and] at hQz); simp only [go_sem, *] <;> rfl)); (case hl => (intro hQz; (try simp only [wantB_t, wantB_f, Bool.and_eq_true, Bool.not_eq_true', Bool.not_true, Bool.not_false, and_true, true_and] at hQz); simp only [go_sem, *] <;> rfl)); (case hn => (intro hQz; (try simp only [wantB_t, wantB_f, Bool.and_eq_true, Bool.not_eq_true', Bool.not_true, Bool.not_false, and_true, true_and] at hQz); simp only [go_sem, *] <;> rfl)); (case hp => intro hQz; first | exact methods_ok _ _ | (have hXz := methods_ok _ _; simp only [go_sem, *] at hXz; exact hXz)))
    | (apply st_c; (case hc => (simp only [go_sem, *] <;> rfl)); (case hl => (simp only [go_sem, *] <;> rfl)); (case hn => (simp only [go_sem, *] <;> rfl)); (case hp => first | exact methods_ok _ _ | (have hXz := methods_ok _ _; simp only [go_sem, *] at hXz; exact hXz)))
    | (apply st_cd; (case hc => (simp only [go_sem, *] <;> rfl)); (case hl => (simp only [go_sem, *] <;> rfl)); (case hn => (simp only [go_sem, *] <;> rfl)); (case hp => first | exact methods_ok _ _ | (have hXz := methods_ok _ _; simp only [go_sem, *] at hXz; exact hXz)); (case hd => first | exact .v _ | exact .any | exact .nils); (case hm => first | decide | (simp; done)))
    | (apply st_gu; (case hv => (simp only [go_sem, *] <;> rfl)))
    | (apply st_g; (case hv => (simp only [go_sem, *] <;> rfl)); all_goals (intro hg; (try simp only [Bool.not_true, Bool.not_false, reduceCtorEq] at hg)))
    | (apply Awp.reg; (case hn => (simp only [List.length_cons, List.length_nil, Nat.reduceAdd] <;> rfl)))
    | (refine Awp.ret ?_; try simp only [go_sem, *])
    | (refine Awp.skip ?_; try simp only [go_sem, *])
    | (refine Awp.exit ?_; try simp only [go_sem, *])
    | refine Awp.scope ?_
    | refine Awp.block ?_
    | (apply Awp.cond; (case hc => (simp only [go_sem, *] <;> rfl)); all_goals (intro hg; (try simp only [Bool.not_true, Bool.not_false, reduceCtorEq] at hg)))
    | refine Awp.seq ?_)
        refine Awp.loop (fun i : Nat => i ≤ w.passed.length ∧ ∀ j, j < i → (methods k w.cls).contains (w.passed.getD j 0) = true) 1 (fun i => mkS [(1, .v (.int .i64 k)), (2, .bp 0 0), (6, .sl (ints (methods k w.cls))), (52, .sl (ints w.passed)), (53, .v (.int .i64 w.passed.length)), (54, .v (.int .i64 i))] [(0, .box w.cells)]) (fun i => w.passed.length - i) 0 ⟨Nat.zero_le _, fun j hj => by omega⟩ ?_ ?_
        · clear hlt hlt' hi hj e1
          (apply Ghost.mk [] []; (case hdead => rfl); (case hinj => rfl); (case hV => (simp only [go_sem, *]) <;> (repeat' (first | refine And.intro ?_ ?_ | exact View.int (by first | rfl | omega | (simp; done) | (rw [wrap_i64] <;> (try simp only [Int.natCast_add]) <;> omega) | (simp [*]; done)) | exact View.bool (by first | rfl | omega | (simp; done) | (rw [wrap_i64] <;> (try simp only [Int.natCast_add]) <;> omega) | (simp [*]; done)) | exact View.str (by first | rfl | omega | (simp; done) | (rw [wrap_i64] <;> (try simp only [Int.natCast_add]) <;> omega) | (simp [*]; done)) | exact View.slE (by first | rfl | omega | (simp; done) | (rw [wrap_i64] <;> (try simp only [Int.natCast_add]) <;> omega) | (simp [*]; done)) | exact .any _ | exact .bp rfl (by decide) | exact .own rfl (by decide) | exact .ep rfl (by decide)))); (case hB => (simp only [go_sem, *]) <;> (repeat' (first | refine And.intro ?_ ?_ | decide | exact ⟨_, rfl, .rowE (by first | rfl | omega | (simp; done) | (rw [wrap_i64] <;> (try simp only [Int.natCast_add]) <;> omega) | (simp [*]; done))⟩ | exact ⟨_, rfl, .iterE (by first | rfl | omega | (simp; done) | (rw [wrap_i64] <;> (try simp only [Int.natCast_add]) <;> omega) | (simp [*]; done))⟩ | exact ⟨_, rfl, BView.boxF rfl⟩))))
        · clear hlt hlt' hi hj e1 hi1
          intro i ⟨hi, hj⟩
          by_cases hlt : i < w.passed.length
          · have hlt' : (i : Int) < w.passed.length := by omega
            repeat' (first
    | (apply Awp.sreg; (case hn => (simp only [List.length_cons, List.length_nil, Nat.reduceAdd] <;> rfl)))
    | (apply Awp.sdraw; (case hn => (simp only [List.length_cons, List.length_nil, Nat.reduceAdd] <;> rfl)))
    | (refine st_nil ?_)
    | (apply st_a; (case hc => rfl); (case he => (simp only [go_sem, *] <;> rfl)); (case hu => (simp only [updL_nil, updL_cons] <;> rfl)); (case hp => first | trivial | assumption | omega | (simp; done) | (simp; omega) | (simp [*]; done) | ((repeat' (refine And.intro ?_ ?_)) <;> first | trivial | assumption | omega | (simp; done) | (simp; omega) | (simp [*]; done))))
    | (apply st_m; (case hc => rfl); (case hg => (simp only [go_sem, *] <;> rfl)); (case he => (intro hQz; (try simp only [wantB_t, wantB_f, Bool.and_eq_true, Bool.not_eq_true', Bool.not_true, Bool.not_false, and_true, true_and] at hQz); simp only [go_sem, *] <;> rfl)); (case hp => (intro hQz; (try simp only [wantB_t, wantB_f, Bool.and_eq_true, Bool.not_eq_true', Bool.or_eq_false_iff, decide_eq_true_eq, decide_eq_false_iff_not, beq_iff_eq, beq_eq_false_iff_ne, bne_iff_ne, bne_eq_false_iff_eq, Int.not_lt, Int.not_le, Int.ofNat_lt, Int.ofNat_le] at hQz); first | trivial | assumption | omega | (simp; done) | (simp; omega) | (simp [*]; done) | ((repeat' (refine And.intro ?_ ?_)) <;> first | trivial | assumption | omega | (simp; done) | (simp; omega) | (simp [*]; done)))))
    | (apply st_mc; (case hop => rfl); (case hg => (simp only [go_sem, *] <;> rfl)); (case hc => (intro hQz; (try simp only [wantB_t, wantB_f, Bool.and_eq_true, Bool.not_eq_true', Bool.not_true, Bool.not_false, and_true, true_and] at hQz); simp only [go_sem, *] <;> rfl)); (case hl => (intro hQz; (try simp only [wantB_t, wantB_f, Bool.and_eq_true, Bool.not_eq_true', Bool.not_true, Bool.not_false, and_true, true_and] at hQz); simp only [go_sem, *] <;> rfl)); (case hn => (intro hQz; (try simp only [wantB_t, wantB_f, Bool.and_eq_true, Bool.not_eq_true', Bool.not_true, Bool.not_false, and_true, true_and] at hQz); simp only [go_sem, *] <;> rfl)); (case hp => intro hQz; first | exact contains_ok _ _ hm | (have hXz := contains_ok _ _ hm; simp only [go_sem, *] at hXz; exact hXz)))
    | (apply st_c; (case hc => (simp only [go_sem, *] <;> rfl)); (case hl => (simp only [go_sem, *] <;> rfl)); (case hn => (simp only [go_sem, *] <;> rfl)); (case hp => first | exact contains_ok _ _ hm | (have hXz := contains_ok _ _ hm; simp only [go_sem, *] at hXz; exact hXz)))
    | (apply st_cd; (case hc => (simp only [go_sem, *] <;> rfl)); (case hl => (simp only [go_sem, *] <;> rfl)); (case hn => (simp only [go_sem, *] <;> rfl)); (case hp => first | exact contains_ok _ _ hm | (have hXz := contains_ok _ _ hm; simp only [go_sem, *] at hXz; exact hXz)); (case hd => first | exact .v _ | exact .any | exact .nils); (case hm => first | decide | (simp; done)))
    | (apply st_gu; (case hv => (simp only [go_sem, *] <;> rfl)))
    | (apply st_g; (case hv => (simp only [go_sem, *] <;> rfl)); all_goals (intro hg; (try simp only [Bool.not_true, Bool.not_false, reduceCtorEq] at hg)))
    | (apply Awp.reg; (case hn => (simp only [List.length_cons, List.length_nil, Nat.reduceAdd] <;> rfl)))
    | (refine Awp.ret ?_; try simp only [go_sem, *])
    | (refine Awp.skip ?_; try simp only [go_sem, *])
    | (refine Awp.exit ?_; try simp only [go_sem, *])
    | refine Awp.scope ?_
    | refine Awp.block ?_
    | (apply Awp.cond; (case hc => (simp only [go_sem, *] <;> rfl)); all_goals (intro hg; (try simp only [Bool.not_true, Bool.not_false, reduceCtorEq] at hg)))
    | refine Awp.seq ?_)
            · exact Lower.int (by rw [madeE, if_neg (by rw [g1]; decide), if_neg (by rw [g2]; decide), if_neg (by rw [g3]; decide), ha, if_neg (by decide), allIn_out hlt (by simpa using hg)]; rfl)
            · refine ⟨i + 1, ⟨by omega, ltSucc hj (by simpa using hg)⟩, by omega, ?_⟩
              (apply Ghost.mk [] []; (case hdead => rfl); (case hinj => rfl); (case hV => (simp only [go_sem, *]) <;> (repeat' (first | refine And.intro ?_ ?_ | exact View.int (by first | rfl | omega | (simp; done) | (rw [wrap_i64] <;> (try simp only [Int.natCast_add]) <;> omega) | (simp [*]; done)) | exact View.bool (by first | rfl | omega | (simp; done) | (rw [wrap_i64] <;> (try simp only [Int.natCast_add]) <;> omega) | (simp [*]; done)) | exact View.str (by first | rfl | omega | (simp; done) | (rw [wrap_i64] <;> (try simp only [Int.natCast_add]) <;> omega) | (simp [*]; done)) | exact View.slE (by first | rfl | omega | (simp; done) | (rw [wrap_i64] <;> (try simp only [Int.natCast_add]) <;> omega) | (simp [*]; done)) | exact .any _ | exact .bp rfl (by decide) | exact .own rfl (by decide) | exact .ep rfl (by decide)))); (case hB => (simp only [go_sem, *]) <;> (repeat' (first | refine And.intro ?_ ?_ | decide | exact ⟨_, rfl, .rowE (by first | rfl | omega | (simp; done) | (rw [wrap_i64] <;> (try simp only [Int.natCast_add]) <;> omega) | (simp [*]; done))⟩ | exact ⟨_, rfl, .iterE (by first | rfl | omega | (simp; done) | (rw [wrap_i64] <;> (try simp only [Int.natCast_add]) <;> omega) | (simp [*]; done))⟩ | exact ⟨_, rfl, BView.boxF rfl⟩))))
          · have hlt' : ¬ (i : Int) < w.passed.length := by omega
            have hin := allIn_end hj (Nat.le_of_not_lt hlt)
            repeat' (first
    | (apply Awp.sreg; (case hn => (simp only [List.length_cons, List.length_nil, Nat.reduceAdd] <;> rfl)))
    | (apply Awp.sdraw; (case hn => (simp only [List.length_cons, List.length_nil, Nat.reduceAdd] <;> rfl)))
    | (refine st_nil ?_)
    | (apply st_a; (case hc => rfl); (case he => (simp only [go_sem, *] <;> rfl)); (case hu => (simp only [updL_nil, updL_cons] <;> rfl)); (case hp => first | trivial | assumption | omega | (simp; done) | (simp; omega) | (simp [*]; done) | ((repeat' (refine And.intro ?_ ?_)) <;> first | trivial | assumption | omega | (simp; done) | (simp; omega) | (simp [*]; done))))
    | (apply st_m; (case hc => rfl); (case hg => (simp only [go_sem, *] <;> rfl)); (case he => (intro hQz; (try simp only [wantB_t, wantB_f, Bool.and_eq_true, Bool.not_eq_true', Bool.not_true, Bool.not_false, and_true, true_and] at hQz); simp only [go_sem, *] <;> rfl)); (case hp => (intro hQz; (try simp only [wantB_t, wantB_f, Bool.and_eq_true, Bool.not_eq_true', Bool.or_eq_false_iff, decide_eq_true_eq, decide_eq_false_iff_not, beq_iff_eq, beq_eq_false_iff_ne, bne_iff_ne, bne_eq_false_iff_eq, Int.not_lt, Int.not_le, Int.ofNat_lt, Int.ofNat_le] at hQz); first | trivial | assumption | omega | (simp; done) | (simp; omega) | (simp [*]; done) | ((repeat' (refine And.intro ?_ ?_)) <;> first | trivial | assumption | omega | (simp; done) | (simp; omega) | (simp [*]; done)))))
    | (apply st_mc; (case hop => rfl); (case hg => (simp only [go_sem, *] <;> rfl)); (case hc => (intro hQz; (try simp only [wantB_t, wantB_f, Bool.and_eq_true, Bool.not_eq_true', Bool.not_true, Bool.not_false, and_true, true_and] at hQz); simp only [go_sem, *] <;> rfl)); (case hl => (intro hQz; (try simp only [wantB_t, wantB_f, Bool.and_eq_true, Bool.not_eq_true', Bool.not_true, Bool.not_false, and_true, true_and] at hQz); simp only [go_sem, *] <;> rfl)); (case hn => (intro hQz; (try simp only [wantB_t, wantB_f, Bool.and_eq_true, Bool.not_eq_true', Bool.not_true, Bool.not_false, and_true, true_and] at hQz); simp only [go_sem, *] <;> rfl)); (case hp => intro hQz; first | exact complete_ok w k hl | (have hXz := complete_ok w k hl; simp only [go_sem, *] at hXz; exact hXz)))
    | (apply st_c; (case hc => (simp only [go_sem, *] <;> rfl)); (case hl => (simp only [go_sem, *] <;> rfl)); (case hn => (simp only [go_sem, *] <;> rfl)); (case hp => first | exact complete_ok w k hl | (have hXz := complete_ok w k hl; simp only [go_sem, *] at hXz; exact hXz)))
    | (apply st_cd; (case hc => (simp only [go_sem, *] <;> rfl)); (case hl => (simp only [go_sem, *] <;> rfl)); (case hn => (simp only [go_sem, *] <;> rfl)); (case hp => first | exact complete_ok w k hl | (have hXz := complete_ok w k hl; simp only [go_sem, *] at hXz; exact hXz)); (case hd => first | exact .v _ | exact .any | exact .nils); (case hm => first | decide | (simp; done)))
    | (apply st_gu; (case hv => (simp only [go_sem, *] <;> rfl)))
    | (apply st_g; (case hv => (simp only [go_sem, *] <;> rfl)); all_goals (intro hg; (try simp only [Bool.not_true, Bool.not_false, reduceCtorEq] at hg)))
    | (apply Awp.reg; (case hn => (simp only [List.length_cons, List.length_nil, Nat.reduceAdd] <;> rfl)))
    | (refine Awp.ret ?_; try simp only [go_sem, *])
    | (refine Awp.skip ?_; try simp only [go_sem, *])
    | (refine Awp.exit ?_; try simp only [go_sem, *])
    | refine Awp.scope ?_
    | refine Awp.block ?_
    | (apply Awp.cond; (case hc => (simp only [go_sem, *] <;> rfl)); all_goals (intro hg; (try simp only [Bool.not_true, Bool.not_false, reduceCtorEq] at hg)))
    | refine Awp.seq ?_
    | (refine Awp.draw ?_)
    | (apply sl_a; (case hc => rfl); (case he => (simp only [go_sem, *] <;> rfl)); (case hu => (simp only [updL_nil, updL_cons] <;> rfl)); (case hl => (simp only [List.map_cons, List.map_nil] <;> rfl)); (case hp => first | trivial | assumption | omega | (simp; done) | (simp; omega) | (simp [*]; done) | ((repeat' (refine And.intro ?_ ?_)) <;> first | trivial | assumption | omega | (simp; done) | (simp; omega) | (simp [*]; done))))
    | (apply sl_gu; (case hv => (simp only [go_sem, *] <;> rfl)))
    | (apply sl_gn; (case hv => (simp only [go_sem, *] <;> rfl)); (case hbw => rfl))
    | (apply sl_ga; (case hb => rfl); (case hv => (simp only [go_sem, *] <;> rfl)); (case he => (simp only [go_sem, *] <;> rfl)); (case hu => (simp only [updL_nil, updL_cons] <;> rfl)); (case hl => (simp only [List.map_cons, List.map_nil] <;> rfl)); (case hp => first | trivial | assumption | omega | (simp; done) | (simp; omega) | (simp [*]; done) | ((repeat' (refine And.intro ?_ ?_)) <;> first | trivial | assumption | omega | (simp; done) | (simp; omega) | (simp [*]; done))))
    | (apply sl_c; (case hc => (simp only [go_sem, *] <;> rfl)); (case hl => (simp only [go_sem, *] <;> rfl)); (case hn => (simp only [go_sem, *] <;> rfl)); (case hp => first | exact complete_ok w k hl | (have hXz := complete_ok w k hl; simp only [go_sem, *] at hXz; exact hXz)); (case hd => first | exact .inl rfl | exact .inr (.v _) | exact .inr .any | exact .inr .nils); (case hm => first | decide | (simp; done)))
    | (apply sl_cg; (case hop => rfl); (case hv => (simp only [go_sem, *] <;> rfl)); (case hc => (simp only [go_sem, *] <;> rfl)); (case hl => (simp only [go_sem, *] <;> rfl)); (case hn => (simp only [go_sem, *] <;> rfl)); (case hp => first | exact complete_ok w k hl | (have hXz := complete_ok w k hl; simp only [go_sem, *] at hXz; exact hXz)); (case hd => first | exact .inl rfl | exact .inr (.v _) | exact .inr .any | exact .inr .nils); (case hm => first | decide | (simp; done)))
    | (apply sl_case; (case hv => (simp only [go_sem, *] <;> rfl)); all_goals (intro hg; (try simp only [Bool.not_true, Bool.not_false, reduceCtorEq] at hg)))
    | (refine sl_nil (And.intro (by first | exact drawOk_of (by decide +kernel) | decide) ?_)))
            all_goals refine Lower.int ?_
            all_goals rw [madeE, if_neg (by rw [g1]; decide), if_neg (by rw [g2]; decide), if_neg (by rw [g3]; decide), ha, if_neg (by decide), hin, if_neg (by decide)]
            all_goals simp only [stB, *, Bool.true_or, Bool.or_true, Bool.or_false, Bool.or_self, reduceIte, Bool.false_eq_true]
end Go.Proofs
end
section
set_option linter.unusedVariables false
set_option linter.unusedSimpArgs false
namespace Go.Proofs
open Go Go.Ab
set_option maxHeartbeats 4000000
set_option maxRecDepth 100000
set_option linter.unusedSimpArgs false
set_option linter.unusedVariables false
def checkE (w : Wd) (k : Int) : Int :=
  if !idB w.seam then 6 else if !(decide (1 ≤ w.cls) && decide (w.cls ≤ 3)) then 9 else if k != 1 && k != 2 then 10 else if !(decide (1 ≤ w.state) && decide (w.state ≤ 5)) then 14 else if w.state != 1 then madeE w k else openE w
theorem gt_ne (n : Nat) : decide ((0 : Int) < n) = ((n : Int) != 0) := by
  rw [Bool.eq_iff_iff]; simp; omega
attribute [local irreducible] Awp aops aopsL Go.Ab.Pure PureOwn
theorem check_ok (w : Wd) (k : Int) (hl : w.passed.length < 1000000) : Pure Tryd.prog 14 [w.av, .v (.int .i64 k)] (.v (.int .i64 (checkE w k))) := by
  refine fn_pure Tryd.F14 (Nat.le_of_ble_eq_true rfl) ?_; unfold Tryd.ac14
  repeat' (first
    | (apply Awp.sreg; (case hn => (simp only [List.length_cons, List.length_nil, Nat.reduceAdd] <;> rfl)))
    | (apply Awp.sdraw; (case hn => (simp only [List.length_cons, List.length_nil, Nat.reduceAdd] <;> rfl)))
    | (refine st_nil ?_)
    | (apply st_a; (case hc => rfl); (case he => (simp only [go_sem, *] <;> rfl)); (case hu => (simp only [updL_nil, updL_cons] <;> rfl)); (case hp => first | trivial | assumption | omega | (simp; done) | (simp; omega) | (simp [*]; done) | ((repeat' (refine And.intro ?_ ?_)) <;> first | trivial | assumption | omega | (simp; done) | (simp; omega) | (simp [*]; done))))
    | (apply st_m; (case hc => rfl); (case hg => (simp only [go_sem, *] <;> rfl)); (case he => (intro hQz; (try simp only [wantB_t, wantB_f, Bool.and_eq_true, Bool.not_eq_true', Bool.not_true, Bool.not_false, and_true, true_and] at hQz); simp only [go_sem, *] <;> rfl)); (case hp => (intro hQz; (try simp only [wantB_t, wantB_f, Bool.and_eq_true, Bool.not_eq_true', Bool.or_eq_false_iff, decide_eq_true_eq, decide_eq_false_iff_not, beq_iff_eq, beq_eq_false_iff_ne, bne_iff_ne, bne_eq_false_iff_eq, Int.not_lt, Int.not_le, Int.ofNat_lt, Int.ofNat_le] at hQz); first | trivial | assumption | omega | (simp; done) | (simp; omega) | (simp [*]; done) | ((repeat' (refine And.intro ?_ ?_)) <;> first | trivial | assumption | omega | (simp; done) | (simp; omega) | (simp [*]; done)))))
    | (apply st_mc; (case hop => rfl); (case hg => (simp only [go_sem, *] <;> rfl)); (case hc => (intro hQz; (try simp only [wantB_t, wantB_f, Bool.and_eq_true, Bool.not_eq_true', Bool.not_true, Bool.not_false, and_true, true_and] at hQz); simp only [go_sem, *] <;> rfl)); (case hl => (intro hQz; (try simp only [wantB_t, wantB_f, Bool.and_eq_true, Bool.not_eq_true', Bool.not_true, Bool.not_false, and_true, true_and] at hQz); simp only [go_sem, *] <;> rfl)); (case hn => (intro hQz; (try simp only [wantB_t, wantB_f, Bool.and_eq_true, Bool.not_eq_true', Bool.not_true, Bool.not_false, and_true, true_and] at hQz); simp only [go_sem, *] <;> rfl)); (case hp => intro hQz; first | exact isid_ok _ | (have hXz := isid_ok _; simp only [go_sem, *] at hXz; exact hXz)))
    | (apply st_c; (case hc => (simp only [go_sem, *] <;> rfl)); (case hl => (simp only [go_sem, *] <;> rfl)); (case hn => (simp only [go_sem, *] <;> rfl)); (case hp => first | exact isid_ok _ | (have hXz := isid_ok _; simp only [go_sem, *] at hXz; exact hXz)))
    | (apply st_cd; (case hc => (simp only [go_sem, *] <;> rfl)); (case hl => (simp only [go_sem, *] <;> rfl)); (case hn => (simp only [go_sem, *] <;> rfl)); (case hp => first | exact isid_ok _ | (have hXz := isid_ok _; simp only [go_sem, *] at hXz; exact hXz)); (case hd => first | exact .v _ | exact .any | exact .nils); (case hm => first | decide | (simp; done)))
    | (apply st_mc; (case hop => rfl); (case hg => (simp only [go_sem, *] <;> rfl)); (case hc => (intro hQz; (try simp only [wantB_t, wantB_f, Bool.and_eq_true, Bool.not_eq_true', Bool.not_true, Bool.not_false, and_true, true_and] at hQz); simp only [go_sem, *] <;> rfl)); (case hl => (intro hQz; (try simp only [wantB_t, wantB_f, Bool.and_eq_true, Bool.not_eq_true', Bool.not_true, Bool.not_false, and_true, true_and] at hQz); simp only [go_sem, *] <;> rfl)); (case hn => (intro hQz; (try simp only [wantB_t, wantB_f, Bool.and_eq_true, Bool.not_eq_true', Bool.not_true, Bool.not_false, and_true, true_and] at hQz); simp only [go_sem, *] <;> rfl)); (case hp => intro hQz; first | exact from_ok _ _ _ | (have hXz := from_ok _ _ _; simp only [go_sem, *] at hXz; exact hXz)))
    | (apply st_c; (case hc => (simp only [go_sem, *] <;> rfl)); (case hl => (simp only [go_sem, *] <;> rfl)); (case hn => (simp only [go_sem, *] <;> rfl)); (case hp => first | exact from_ok _ _ _ | (have hXz := from_ok _ _ _; simp only [go_sem, *] at hXz; exact hXz)))
    | (apply st_cd; (case hc => (simp only [go_sem, *] <;> rfl)); (case hl => (simp only [go_sem, *] <;> rfl)); (case hn => (simp only [go_sem, *] <;> rfl)); (case hp => first | exact from_ok _ _ _ | (have hXz := from_ok _ _ _; simp only [go_sem, *] at hXz; exact hXz)); (case hd => first | exact .v _ | exact .any | exact .nils); (case hm => first | decide | (simp; done)))
    | (apply st_mc; (case hop => rfl); (case hg => (simp only [go_sem, *] <;> rfl)); (case hc => (intro hQz; (try simp only [wantB_t, wantB_f, Bool.and_eq_true, Bool.not_eq_true', Bool.not_true, Bool.not_false, and_true, true_and] at hQz); simp only [go_sem, *] <;> rfl)); (case hl => (intro hQz; (try simp only [wantB_t, wantB_f, Bool.and_eq_true, Bool.not_eq_true', Bool.not_true, Bool.not_false, and_true, true_and] at hQz); simp only [go_sem, *] <;> rfl)); (case hn => (intro hQz; (try simp only [wantB_t, wantB_f, Bool.and_eq_true, Bool.not_eq_true', Bool.not_true, Bool.not_false, and_true, true_and] at hQz); simp only [go_sem, *] <;> rfl)); (case hp => intro hQz; first | exact made_ok w k hl | (have hXz := made_ok w k hl; simp only [go_sem, *] at hXz; exact hXz)))
    | (apply st_c; (case hc => (simp only [go_sem, *] <;> rfl)); (case hl => (simp only [go_sem, *] <;> rfl)); (case hn => (simp only [go_sem, *] <;> rfl)); (case hp => first | exact made_ok w k hl | (have hXz := made_ok w k hl; simp only [go_sem, *] at hXz; exact hXz)))
    | (apply st_cd; (case hc => (simp only [go_sem, *] <;> rfl)); (case hl => (simp only [go_sem, *] <;> rfl)); (case hn => (simp only [go_sem, *] <;> rfl)); (case hp => first | exact made_ok w k hl | (have hXz := made_ok w k hl; simp only [go_sem, *] at hXz; exact hXz)); (case hd => first | exact .v _ | exact .any | exact .nils); (case hm => first | decide | (simp; done)))
    | (apply st_gu; (case hv => (simp only [go_sem, *] <;> rfl)))
    | (apply st_g; (case hv => (simp only [go_sem, *] <;> rfl)); all_goals (intro hg; (try simp only [Bool.not_true, Bool.not_false, reduceCtorEq] at hg)))
    | (apply Awp.reg; (case hn => (simp only [List.length_cons, List.length_nil, Nat.reduceAdd] <;> rfl)))
    | (refine Awp.ret ?_; try simp only [go_sem, *])
    | (refine Awp.skip ?_; try simp only [go_sem, *])
    | (refine Awp.exit ?_; try simp only [go_sem, *])
    | refine Awp.scope ?_
    | refine Awp.block ?_
    | (apply Awp.cond; (case hc => (simp only [go_sem, *] <;> rfl)); all_goals (intro hg; (try simp only [Bool.not_true, Bool.not_false, reduceCtorEq] at hg)))
    | refine Awp.seq ?_)
  all_goals refine Lower.int ?_
  all_goals simp only [checkE, openE, openB, ← gt_ne, *, reduceIte, Bool.false_eq_true]
def stR (w : Wd) (k : Int) : Bool := (true ^^ ((w.state == 4) == allIn w.passed (methods k w.cls))) || (w.state == 3 && w.repairs == 2) || (w.state == 5 && decide (w.repairs < 2))
def restR (w : Wd) (k : Int) : Int := if !allIn (methods k w.cls) w.passed then 32 else if stR w k then 14 else 0
def checkR (w : Wd) (k : Int) : Int :=
  if !idB w.seam then 6 else if decide (w.cls < 1) || decide (3 < w.cls) then 9 else if k != 1 && k != 2 then 10 else if decide (w.state < 1) || decide (5 < w.state) then 14 else if w.state == 1 then openE w
  else if !nameB w.proc || !nameB w.by_ then 6 else if decide (w.at_ < 0) || decide (1048576 < w.at_) then 15 else if decide (w.repairs < 0) || decide (2 < w.repairs) then 9 else if !ascB w.passed then 11 else restR w k
theorem checkR_eq (w : Wd) (k : Int) : checkR w k = checkE w k := by
  unfold checkR checkE madeE
  simp only [ranges]
  by_cases h1 : (!idB w.seam) = true
  · simp only [h1, if_true]
  by_cases h2 : (decide (w.cls < 1) || decide (3 < w.cls)) = true
  · simp only [h1, h2, if_true, if_false, Bool.false_eq_true]
  by_cases h3 : (k != 1 && k != 2) = true
  · simp only [h1, h2, h3, if_true, if_false, Bool.false_eq_true]
  by_cases h4 : (decide (w.state < 1) || decide (5 < w.state)) = true
  · simp only [h1, h2, h3, h4, if_true, if_false, Bool.false_eq_true]
  by_cases h5 : w.state = 1
  · simp [h5]
  have h6 : (w.state == 1) = false := by simpa using h5
  have h7 : (w.state != 1) = true := by simpa using h5
  simp only [h6, h7, if_true, if_false, Bool.false_eq_true]
  by_cases h8 : (decide (w.repairs < 0) || decide (2 < w.repairs)) = true
  · simp only [h8, if_true]
  have h9 : stR w k = stB w k := by
    simp only [Bool.or_eq_true, decide_eq_true_eq, not_or, Int.not_lt] at h8
    have e1 : (w.repairs == 2) = decide (2 ≤ w.repairs) := by rw [Bool.eq_iff_iff]; simp; omega
    have e2 : decide (w.repairs < 2) = (w.repairs != 2) := by rw [Bool.eq_iff_iff]; simp; omega
    simp only [stR, stB, e1, e2]
  simp only [restR, h9]
theorem rcheck_ok (w : Wd) (k : Int) (hl : w.passed.length < 1000000) (hs : w.seam.size < 1000000) : Pure Tryd.prog 15 [w.av, .v (.int .i64 k)] (.v (.int .i64 (checkR w k))) := by
  have hm := methods_len k w.cls
  refine fn_pure Tryd.F15 (Nat.le_of_ble_eq_true rfl) ?_; unfold Tryd.ac15
  repeat' (first
    | (apply Awp.sreg; (case hn => (simp only [List.length_cons, List.length_nil, Nat.reduceAdd] <;> rfl)))
    | (apply Awp.sdraw; (case hn => (simp only [List.length_cons, List.length_nil, Nat.reduceAdd] <;> rfl)))
    | (refine st_nil ?_)
    | (apply st_a; (case hc => rfl); (case he => (simp only [go_sem, *] <;> rfl)); (case hu => (simp only [updL_nil, updL_cons] <;> rfl)); (case hp => first | trivial | assumption | omega | (simp; done) | (simp; omega) | (simp [*]; done) | ((repeat' (refine And.intro ?_ ?_)) <;> first | trivial | assumption | omega | (simp; done) | (simp; omega) | (simp [*]; done))))
    | (apply st_m; (case hc => rfl); (case hg => (simp only [go_sem, *] <;> rfl)); (case he => (intro hQz; (try simp only [wantB_t, wantB_f, Bool.and_eq_true, Bool.not_eq_true', Bool.not_true, Bool.not_false, and_true, true_and] at hQz); simp only [go_sem, *] <;> rfl)); (case hp => (intro hQz; (try simp only [wantB_t, wantB_f, Bool.and_eq_true, Bool.not_eq_true', Bool.or_eq_false_iff, decide_eq_true_eq, decide_eq_false_iff_not, beq_iff_eq, beq_eq_false_iff_ne, bne_iff_ne, bne_eq_false_iff_eq, Int.not_lt, Int.not_le, Int.ofNat_lt, Int.ofNat_le] at hQz); first | trivial | assumption | omega | (simp; done) | (simp; omega) | (simp [*]; done) | ((repeat' (refine And.intro ?_ ?_)) <;> first | trivial | assumption | omega | (simp; done) | (simp; omega) | (simp [*]; done)))))
    | (apply st_mc; (case hop => rfl); (case hg => (simp only [go_sem, *] <;> rfl)); (case hc => (intro hQz; (try simp only [wantB_t, wantB_f, Bool.and_eq_true, Bool.not_eq_true', Bool.not_true, Bool.not_false, and_true, true_and] at hQz); simp only [go_sem, *] <;> rfl)); (case hl => (intro hQz; (try simp only [wantB_t, wantB_f, Bool.and_eq_true, Bool.not_eq_true', Bool.not_true, Bool.not_false, and_true, true_and] at hQz); simp only [go_sem, *] <;> rfl)); (case hn => (intro hQz; (try simp only [wantB_t, wantB_f, Bool.and_eq_true, Bool.not_eq_true', Bool.not_true, Bool.not_false, and_true, true_and] at hQz); simp only [go_sem, *] <;> rfl)); (case hp => intro hQz; first | exact risid_ok _ hs | (have hXz := risid_ok _ hs; simp only [go_sem, *] at hXz; exact hXz)))
    | (apply st_c; (case hc => (simp only [go_sem, *] <;> rfl)); (case hl => (simp only [go_sem, *] <;> rfl)); (case hn => (simp only [go_sem, *] <;> rfl)); (case hp => first | exact risid_ok _ hs | (have hXz := risid_ok _ hs; simp only [go_sem, *] at hXz; exact hXz)))
    | (apply st_cd; (case hc => (simp only [go_sem, *] <;> rfl)); (case hl => (simp only [go_sem, *] <;> rfl)); (case hn => (simp only [go_sem, *] <;> rfl)); (case hp => first | exact risid_ok _ hs | (have hXz := risid_ok _ hs; simp only [go_sem, *] at hXz; exact hXz)); (case hd => first | exact .v _ | exact .any | exact .nils); (case hm => first | decide | (simp; done)))
    | (apply st_mc; (case hop => rfl); (case hg => (simp only [go_sem, *] <;> rfl)); (case hc => (intro hQz; (try simp only [wantB_t, wantB_f, Bool.and_eq_true, Bool.not_eq_true', Bool.not_true, Bool.not_false, and_true, true_and] at hQz); simp only [go_sem, *] <;> rfl)); (case hl => (intro hQz; (try simp only [wantB_t, wantB_f, Bool.and_eq_true, Bool.not_eq_true', Bool.not_true, Bool.not_false, and_true, true_and] at hQz); simp only [go_sem, *] <;> rfl)); (case hn => (intro hQz; (try simp only [wantB_t, wantB_f, Bool.and_eq_true, Bool.not_eq_true', Bool.not_true, Bool.not_false, and_true, true_and] at hQz); simp only [go_sem, *] <;> rfl)); (case hp => intro hQz; first | exact open_ok w | (have hXz := open_ok w; simp only [go_sem, *] at hXz; exact hXz)))
    | (apply st_c; (case hc => (simp only [go_sem, *] <;> rfl)); (case hl => (simp only [go_sem, *] <;> rfl)); (case hn => (simp only [go_sem, *] <;> rfl)); (case hp => first | exact open_ok w | (have hXz := open_ok w; simp only [go_sem, *] at hXz; exact hXz)))
    | (apply st_cd; (case hc => (simp only [go_sem, *] <;> rfl)); (case hl => (simp only [go_sem, *] <;> rfl)); (case hn => (simp only [go_sem, *] <;> rfl)); (case hp => first | exact open_ok w | (have hXz := open_ok w; simp only [go_sem, *] at hXz; exact hXz)); (case hd => first | exact .v _ | exact .any | exact .nils); (case hm => first | decide | (simp; done)))
    | (apply st_mc; (case hop => rfl); (case hg => (simp only [go_sem, *] <;> rfl)); (case hc => (intro hQz; (try simp only [wantB_t, wantB_f, Bool.and_eq_true, Bool.not_eq_true', Bool.not_true, Bool.not_false, and_true, true_and] at hQz); simp only [go_sem, *] <;> rfl)); (case hl => (intro hQz; (try simp only [wantB_t, wantB_f, Bool.and_eq_true, Bool.not_eq_true', Bool.not_true, Bool.not_false, and_true, true_and] at hQz); simp only [go_sem, *] <;> rfl)); (case hn => (intro hQz; (try simp only [wantB_t, wantB_f, Bool.and_eq_true, Bool.not_eq_true', Bool.not_true, Bool.not_false, and_true, true_and] at hQz); simp only [go_sem, *] <;> rfl)); (case hp => intro hQz; first | exact rname_ok _ | (have hXz := rname_ok _; simp only [go_sem, *] at hXz; exact hXz)))
    | (apply st_c; (case hc => (simp only [go_sem, *] <;> rfl)); (case hl => (simp only [go_sem, *] <;> rfl)); (case hn => (simp only [go_sem, *] <;> rfl)); (case hp => first | exact rname_ok _ | (have hXz := rname_ok _; simp only [go_sem, *] at hXz; exact hXz)))
    | (apply st_cd; (case hc => (simp only [go_sem, *] <;> rfl)); (case hl => (simp only [go_sem, *] <;> rfl)); (case hn => (simp only [go_sem, *] <;> rfl)); (case hp => first | exact rname_ok _ | (have hXz := rname_ok _; simp only [go_sem, *] at hXz; exact hXz)); (case hd => first | exact .v _ | exact .any | exact .nils); (case hm => first | decide | (simp; done)))
    | (apply st_mc; (case hop => rfl); (case hg => (simp only [go_sem, *] <;> rfl)); (case hc => (intro hQz; (try simp only [wantB_t, wantB_f, Bool.and_eq_true, Bool.not_eq_true', Bool.not_true, Bool.not_false, and_true, true_and] at hQz); simp only [go_sem, *] <;> rfl)); (case hl => (intro hQz; (try simp only [wantB_t, wantB_f, Bool.and_eq_true, Bool.not_eq_true', Bool.not_true, Bool.not_false, and_true, true_and] at hQz); simp only [go_sem, *] <;> rfl)); (case hn => (intro hQz; (try simp only [wantB_t, wantB_f, Bool.and_eq_true, Bool.not_eq_true', Bool.not_true, Bool.not_false, and_true, true_and] at hQz); simp only [go_sem, *] <;> rfl)); (case hp => intro hQz; first | exact rmethods2_ok _ _ | (have hXz := rmethods2_ok _ _; simp only [go_sem, *] at hXz; exact hXz)))
    | (apply st_c; (case hc => (simp only [go_sem, *] <;> rfl)); (case hl => (simp only [go_sem, *] <;> rfl)); (case hn => (simp only [go_sem, *] <;> rfl)); (case hp => first | exact rmethods2_ok _ _ | (have hXz := rmethods2_ok _ _; simp only [go_sem, *] at hXz; exact hXz)))
    | (apply st_cd; (case hc => (simp only [go_sem, *] <;> rfl)); (case hl => (simp only [go_sem, *] <;> rfl)); (case hn => (simp only [go_sem, *] <;> rfl)); (case hp => first | exact rmethods2_ok _ _ | (have hXz := rmethods2_ok _ _; simp only [go_sem, *] at hXz; exact hXz)); (case hd => first | exact .v _ | exact .any | exact .nils); (case hm => first | decide | (simp; done)))
    | (apply st_gu; (case hv => (simp only [go_sem, *] <;> rfl)))
    | (apply st_g; (case hv => (simp only [go_sem, *] <;> rfl)); all_goals (intro hg; (try simp only [Bool.not_true, Bool.not_false, reduceCtorEq] at hg)))
    | (apply Awp.reg; (case hn => (simp only [List.length_cons, List.length_nil, Nat.reduceAdd] <;> rfl)))
    | (refine Awp.ret ?_; try simp only [go_sem, *])
    | (refine Awp.skip ?_; try simp only [go_sem, *])
    | (refine Awp.exit ?_; try simp only [go_sem, *])
    | refine Awp.scope ?_
    | refine Awp.block ?_
    | (apply Awp.cond; (case hc => (simp only [go_sem, *] <;> rfl)); all_goals (intro hg; (try simp only [Bool.not_true, Bool.not_false, reduceCtorEq] at hg)))
    | refine Awp.seq ?_)
  · exact Lower.int (by simp only [checkR, *, reduceIte, Bool.false_eq_true])
  · exact Lower.int (by simp only [checkR, *, reduceIte, Bool.false_eq_true])
  · exact Lower.int (by simp only [checkR, *, reduceIte, Bool.false_eq_true])
  · exact Lower.int (by simp only [checkR, *, reduceIte, Bool.false_eq_true])
  · exact Lower.int (by simp only [checkR, *, reduceIte, Bool.false_eq_true])
  · exact Lower.int (by simp only [checkR, *, reduceIte, Bool.false_eq_true])
  · exact Lower.int (by simp only [checkR, *, reduceIte, Bool.false_eq_true])
  · exact Lower.int (by simp only [checkR, *, reduceIte, Bool.false_eq_true])
  · have g8 := hg
    clear hg
    have g7 := hg
    clear hg
    have g6 := hg
    clear hg
    have g5 := hg
    clear hg
    have g4 := hg
    clear hg
    have g3 := hg
    clear hg
    have g2 := hg
    clear hg
    have g1 := hg
    clear hg
    have hpre : ∀ x : Int, (if !ascB w.passed then 11 else restR w k) = x → checkR w k = x := by
      intro x hx
      rw [checkR, if_neg (by rw [g1]; decide), if_neg (by rw [g2]; decide), if_neg (by rw [g3]; decide), if_neg (by rw [g4]; decide), if_neg (by rw [g5]; decide), if_neg (by rw [g6]; decide), if_neg (by rw [g7]; decide), if_neg (by rw [g8]; decide)]
      exact hx
    refine Awp.loop (fun i : Nat => 1 ≤ i ∧ (i ≤ w.passed.length ∨ i = 1) ∧ ∀ j, j + 1 < i → w.passed.getD j 0 < w.passed.getD (j + 1) 0) 1 (fun i => mkS [(1, .v (.int .i64 k)), (2, .bp 0 0), (5, .sl (ints (methods k w.cls))), (6, .v (.int .i64 i))] [(0, .box w.cells)]) (fun i => w.passed.length - i) 1 ⟨Nat.le_refl _, .inr rfl, fun j hj => by omega⟩ ?_ ?_
    · (apply Ghost.mk [] []; (case hdead => rfl); (case hinj => rfl); (case hV => (simp only [go_sem, *]) <;> (repeat' (first | refine And.intro ?_ ?_ | exact View.int (by first | rfl | omega | (simp; done) | (rw [wrap_i64] <;> (try simp only [Int.natCast_add]) <;> omega) | (simp [*]; done)) | exact View.bool (by first | rfl | omega | (simp; done) | (rw [wrap_i64] <;> (try simp only [Int.natCast_add]) <;> omega) | (simp [*]; done)) | exact View.str (by first | rfl | omega | (simp; done) | (rw [wrap_i64] <;> (try simp only [Int.natCast_add]) <;> omega) | (simp [*]; done)) | exact View.slE (by first | rfl | omega | (simp; done) | (rw [wrap_i64] <;> (try simp only [Int.natCast_add]) <;> omega) | (simp [*]; done)) | exact .any _ | exact .bp rfl (by decide) | exact .own rfl (by decide) | exact .ep rfl (by decide)))); (case hB => (simp only [go_sem, *]) <;> (repeat' (first | refine And.intro ?_ ?_ | decide | exact ⟨_, rfl, .rowE (by first | rfl | omega | (simp; done) | (rw [wrap_i64] <;> (try simp only [Int.natCast_add]) <;> omega) | (simp [*]; done))⟩ | exact ⟨_, rfl, .iterE (by first | rfl | omega | (simp; done) | (rw [wrap_i64] <;> (try simp only [Int.natCast_add]) <;> omega) | (simp [*]; done))⟩ | exact ⟨_, rfl, BView.boxF rfl⟩))))
    · intro i ⟨hi1, hi, hj⟩
      have e1 : IntKind.i64.wrap ((i : Int) - 1) = ((i - 1 : Nat) : Int) := by rw [wrap_i64] <;> omega
      by_cases hlt : i < w.passed.length
      · have hlt' : (i : Int) < w.passed.length := by omega
        have hlt2 : i - 1 < w.passed.length := by omega
        clear g1 g2 g3 g4 g5 g6 g7 g8
        repeat' (first
    | (apply Awp.sreg; (case hn => (simp only [List.length_cons, List.length_nil, Nat.reduceAdd] <;> rfl)))
    | (apply Awp.sdraw; (case hn => (simp only [List.length_cons, List.length_nil, Nat.reduceAdd] <;> rfl)))
    | (refine st_nil ?_)
    | (apply st_a; (case hc => rfl); (case he => (simp only [go_sem, *] <;> rfl)); (case hu => (simp only [updL_nil, updL_cons] <;> rfl)); (case hp => first | trivial | assumption | omega | (simp; done) | (simp; omega) | (simp [*]; done) | ((repeat' (refine And.intro ?_ ?_)) <;> first | trivial | assumption | omega | (simp; done) | (simp; omega) | (simp [*]; done))))
    | (apply st_m; (case hc => rfl); (case hg => (simp only [go_sem, *] <;> rfl)); (case he => (intro hQz; (try simp only [wantB_t, wantB_f, Bool.and_eq_true, Bool.not_eq_true', Bool.not_true, Bool.not_false, and_true, true_and] at hQz); simp only [go_sem, *] <;> rfl)); (case hp => (intro hQz; (try simp only [wantB_t, wantB_f, Bool.and_eq_true, Bool.not_eq_true', Bool.or_eq_false_iff, decide_eq_true_eq, decide_eq_false_iff_not, beq_iff_eq, beq_eq_false_iff_ne, bne_iff_ne, bne_eq_false_iff_eq, Int.not_lt, Int.not_le, Int.ofNat_lt, Int.ofNat_le] at hQz); first | trivial | assumption | omega | (simp; done) | (simp; omega) | (simp [*]; done) | ((repeat' (refine And.intro ?_ ?_)) <;> first | trivial | assumption | omega | (simp; done) | (simp; omega) | (simp [*]; done)))))
    | (apply st_gu; (case hv => (simp only [go_sem, *] <;> rfl)))
    | (apply st_g; (case hv => (simp only [go_sem, *] <;> rfl)); all_goals (intro hg; (try simp only [Bool.not_true, Bool.not_false, reduceCtorEq] at hg)))
    | (apply Awp.reg; (case hn => (simp only [List.length_cons, List.length_nil, Nat.reduceAdd] <;> rfl)))
    | (refine Awp.ret ?_; try simp only [go_sem, *])
    | (refine Awp.skip ?_; try simp only [go_sem, *])
    | (refine Awp.exit ?_; try simp only [go_sem, *])
    | refine Awp.scope ?_
    | refine Awp.block ?_
    | (apply Awp.cond; (case hc => (simp only [go_sem, *] <;> rfl)); all_goals (intro hg; (try simp only [Bool.not_true, Bool.not_false, reduceCtorEq] at hg)))
    | refine Awp.seq ?_
    | (refine Awp.draw ?_)
    | (apply sl_a; (case hc => rfl); (case he => (simp only [go_sem, *] <;> rfl)); (case hu => (simp only [updL_nil, updL_cons] <;> rfl)); (case hl => (simp only [List.map_cons, List.map_nil] <;> rfl)); (case hp => first | trivial | assumption | omega | (simp; done) | (simp; omega) | (simp [*]; done) | ((repeat' (refine And.intro ?_ ?_)) <;> first | trivial | assumption | omega | (simp; done) | (simp; omega) | (simp [*]; done))))
    | (apply sl_gu; (case hv => (simp only [go_sem, *] <;> rfl)))
    | (apply sl_gn; (case hv => (simp only [go_sem, *] <;> rfl)); (case hbw => rfl))
    | (apply sl_ga; (case hb => rfl); (case hv => (simp only [go_sem, *] <;> rfl)); (case he => (simp only [go_sem, *] <;> rfl)); (case hu => (simp only [updL_nil, updL_cons] <;> rfl)); (case hl => (simp only [List.map_cons, List.map_nil] <;> rfl)); (case hp => first | trivial | assumption | omega | (simp; done) | (simp; omega) | (simp [*]; done) | ((repeat' (refine And.intro ?_ ?_)) <;> first | trivial | assumption | omega | (simp; done) | (simp; omega) | (simp [*]; done))))
    | (apply sl_case; (case hv => (simp only [go_sem, *] <;> rfl)); all_goals (intro hg; (try simp only [Bool.not_true, Bool.not_false, reduceCtorEq] at hg)))
    | (refine sl_nil (And.intro (by first | exact drawOk_of (by decide +kernel) | decide) ?_)))
        · simp only [decide_eq_true_eq] at hg
          exact Lower.int (by rw [ascB_bad hlt hi1 hg]; rfl)
        · simp only [decide_eq_false_iff_not, Int.not_le] at hg
          refine ⟨i + 1, ⟨by omega, by omega, fun j h => ?_⟩, by omega, ?_⟩
          · rcases Nat.lt_or_ge (j + 1) i with h' | h'
            · exact hj j h'
            · have : j = i - 1 := by omega
              subst this
              rw [show i - 1 + 1 = i by omega]
              exact hg
          · (apply Ghost.mk [] []; (case hdead => rfl); (case hinj => rfl); (case hV => (simp only [go_sem, *]) <;> (repeat' (first | refine And.intro ?_ ?_ | exact View.int (by first | rfl | omega | (simp; done) | (rw [wrap_i64] <;> (try simp only [Int.natCast_add]) <;> omega) | (simp [*]; done)) | exact View.bool (by first | rfl | omega | (simp; done) | (rw [wrap_i64] <;> (try simp only [Int.natCast_add]) <;> omega) | (simp [*]; done)) | exact View.str (by first | rfl | omega | (simp; done) | (rw [wrap_i64] <;> (try simp only [Int.natCast_add]) <;> omega) | (simp [*]; done)) | exact View.slE (by first | rfl | omega | (simp; done) | (rw [wrap_i64] <;> (try simp only [Int.natCast_add]) <;> omega) | (simp [*]; done)) | exact .any _ | exact .bp rfl (by decide) | exact .own rfl (by decide) | exact .ep rfl (by decide)))); (case hB => (simp only [go_sem, *]) <;> (repeat' (first | refine And.intro ?_ ?_ | decide | exact ⟨_, rfl, .rowE (by first | rfl | omega | (simp; done) | (rw [wrap_i64] <;> (try simp only [Int.natCast_add]) <;> omega) | (simp [*]; done))⟩ | exact ⟨_, rfl, .iterE (by first | rfl | omega | (simp; done) | (rw [wrap_i64] <;> (try simp only [Int.natCast_add]) <;> omega) | (simp [*]; done))⟩ | exact ⟨_, rfl, BView.boxF rfl⟩))))
      · have hlt' : ¬ (i : Int) < w.passed.length := by omega
        have ha := ascB_end hj (Nat.le_of_not_lt hlt)
        rw [ha] at hpre
        clear g1 g2 g3 g4 g5 g6 g7 g8 hj hi e1
        repeat' (first
    | (apply Awp.sreg; (case hn => (simp only [List.length_cons, List.length_nil, Nat.reduceAdd] <;> rfl)))
    | (apply Awp.sdraw; (case hn => (simp only [List.length_cons, List.length_nil, Nat.reduceAdd] <;> rfl)))
    | (refine st_nil ?_)
    | (apply st_a; (case hc => rfl); (case he => (simp only [go_sem, *] <;> rfl)); (case hu => (simp only [updL_nil, updL_cons] <;> rfl)); (case hp => first | trivial | assumption | omega | (simp; done) | (simp; omega) | (simp [*]; done) | ((repeat' (refine And.intro ?_ ?_)) <;> first | trivial | assumption | omega | (simp; done) | (simp; omega) | (simp [*]; done))))
    | (apply st_m; (case hc => rfl); (case hg => (simp only [go_sem, *] <;> rfl)); (case he => (intro hQz; (try simp only [wantB_t, wantB_f, Bool.and_eq_true, Bool.not_eq_true', Bool.not_true, Bool.not_false, and_true, true_and] at hQz); simp only [go_sem, *] <;> rfl)); (case hp => (intro hQz; (try simp only [wantB_t, wantB_f, Bool.and_eq_true, Bool.not_eq_true', Bool.or_eq_false_iff, decide_eq_true_eq, decide_eq_false_iff_not, beq_iff_eq, beq_eq_false_iff_ne, bne_iff_ne, bne_eq_false_iff_eq, Int.not_lt, Int.not_le, Int.ofNat_lt, Int.ofNat_le] at hQz); first | trivial | assumption | omega | (simp; done) | (simp; omega) | (simp [*]; done) | ((repeat' (refine And.intro ?_ ?_)) <;> first | trivial | assumption | omega | (simp; done) | (simp; omega) | (simp [*]; done)))))
    | (apply st_mc; (case hop => rfl); (case hg => (simp only [go_sem, *] <;> rfl)); (case hc => (intro hQz; (try simp only [wantB_t, wantB_f, Bool.and_eq_true, Bool.not_eq_true', Bool.not_true, Bool.not_false, and_true, true_and] at hQz); simp only [go_sem, *] <;> rfl)); (case hl => (intro hQz; (try simp only [wantB_t, wantB_f, Bool.and_eq_true, Bool.not_eq_true', Bool.not_true, Bool.not_false, and_true, true_and] at hQz); simp only [go_sem, *] <;> rfl)); (case hn => (intro hQz; (try simp only [wantB_t, wantB_f, Bool.and_eq_true, Bool.not_eq_true', Bool.not_true, Bool.not_false, and_true, true_and] at hQz); simp only [go_sem, *] <;> rfl)); (case hp => intro hQz; first | exact all_ok _ _ hm hl | (have hXz := all_ok _ _ hm hl; simp only [go_sem, *] at hXz; exact hXz)))
    | (apply st_c; (case hc => (simp only [go_sem, *] <;> rfl)); (case hl => (simp only [go_sem, *] <;> rfl)); (case hn => (simp only [go_sem, *] <;> rfl)); (case hp => first | exact all_ok _ _ hm hl | (have hXz := all_ok _ _ hm hl; simp only [go_sem, *] at hXz; exact hXz)))
    | (apply st_cd; (case hc => (simp only [go_sem, *] <;> rfl)); (case hl => (simp only [go_sem, *] <;> rfl)); (case hn => (simp only [go_sem, *] <;> rfl)); (case hp => first | exact all_ok _ _ hm hl | (have hXz := all_ok _ _ hm hl; simp only [go_sem, *] at hXz; exact hXz)); (case hd => first | exact .v _ | exact .any | exact .nils); (case hm => first | decide | (simp; done)))
    | (apply st_mc; (case hop => rfl); (case hg => (simp only [go_sem, *] <;> rfl)); (case hc => (intro hQz; (try simp only [wantB_t, wantB_f, Bool.and_eq_true, Bool.not_eq_true', Bool.not_true, Bool.not_false, and_true, true_and] at hQz); simp only [go_sem, *] <;> rfl)); (case hl => (intro hQz; (try simp only [wantB_t, wantB_f, Bool.and_eq_true, Bool.not_eq_true', Bool.not_true, Bool.not_false, and_true, true_and] at hQz); simp only [go_sem, *] <;> rfl)); (case hn => (intro hQz; (try simp only [wantB_t, wantB_f, Bool.and_eq_true, Bool.not_eq_true', Bool.not_true, Bool.not_false, and_true, true_and] at hQz); simp only [go_sem, *] <;> rfl)); (case hp => intro hQz; first | exact all_ok _ _ hl hm | (have hXz := all_ok _ _ hl hm; simp only [go_sem, *] at hXz; exact hXz)))
    | (apply st_c; (case hc => (simp only [go_sem, *] <;> rfl)); (case hl => (simp only [go_sem, *] <;> rfl)); (case hn => (simp only [go_sem, *] <;> rfl)); (case hp => first | exact all_ok _ _ hl hm | (have hXz := all_ok _ _ hl hm; simp only [go_sem, *] at hXz; exact hXz)))
    | (apply st_cd; (case hc => (simp only [go_sem, *] <;> rfl)); (case hl => (simp only [go_sem, *] <;> rfl)); (case hn => (simp only [go_sem, *] <;> rfl)); (case hp => first | exact all_ok _ _ hl hm | (have hXz := all_ok _ _ hl hm; simp only [go_sem, *] at hXz; exact hXz)); (case hd => first | exact .v _ | exact .any | exact .nils); (case hm => first | decide | (simp; done)))
    | (apply st_gu; (case hv => (simp only [go_sem, *] <;> rfl)))
    | (apply st_g; (case hv => (simp only [go_sem, *] <;> rfl)); all_goals (intro hg; (try simp only [Bool.not_true, Bool.not_false, reduceCtorEq] at hg)))
    | (apply Awp.reg; (case hn => (simp only [List.length_cons, List.length_nil, Nat.reduceAdd] <;> rfl)))
    | (refine Awp.ret ?_; try simp only [go_sem, *])
    | (refine Awp.skip ?_; try simp only [go_sem, *])
    | (refine Awp.exit ?_; try simp only [go_sem, *])
    | refine Awp.scope ?_
    | refine Awp.block ?_
    | (apply Awp.cond; (case hc => (simp only [go_sem, *] <;> rfl)); all_goals (intro hg; (try simp only [Bool.not_true, Bool.not_false, reduceCtorEq] at hg)))
    | refine Awp.seq ?_
    | (refine Awp.draw ?_)
    | (apply sl_a; (case hc => rfl); (case he => (simp only [go_sem, *] <;> rfl)); (case hu => (simp only [updL_nil, updL_cons] <;> rfl)); (case hl => (simp only [List.map_cons, List.map_nil] <;> rfl)); (case hp => first | trivial | assumption | omega | (simp; done) | (simp; omega) | (simp [*]; done) | ((repeat' (refine And.intro ?_ ?_)) <;> first | trivial | assumption | omega | (simp; done) | (simp; omega) | (simp [*]; done))))
    | (apply sl_gu; (case hv => (simp only [go_sem, *] <;> rfl)))
    | (apply sl_gn; (case hv => (simp only [go_sem, *] <;> rfl)); (case hbw => rfl))
    | (apply sl_ga; (case hb => rfl); (case hv => (simp only [go_sem, *] <;> rfl)); (case he => (simp only [go_sem, *] <;> rfl)); (case hu => (simp only [updL_nil, updL_cons] <;> rfl)); (case hl => (simp only [List.map_cons, List.map_nil] <;> rfl)); (case hp => first | trivial | assumption | omega | (simp; done) | (simp; omega) | (simp [*]; done) | ((repeat' (refine And.intro ?_ ?_)) <;> first | trivial | assumption | omega | (simp; done) | (simp; omega) | (simp [*]; done))))
    | (apply sl_c; (case hc => (simp only [go_sem, *] <;> rfl)); (case hl => (simp only [go_sem, *] <;> rfl)); (case hn => (simp only [go_sem, *] <;> rfl)); (case hp => first | exact all_ok _ _ hm hl | (have hXz := all_ok _ _ hm hl; simp only [go_sem, *] at hXz; exact hXz)); (case hd => first | exact .inl rfl | exact .inr (.v _) | exact .inr .any | exact .inr .nils); (case hm => first | decide | (simp; done)))
    | (apply sl_cg; (case hop => rfl); (case hv => (simp only [go_sem, *] <;> rfl)); (case hc => (simp only [go_sem, *] <;> rfl)); (case hl => (simp only [go_sem, *] <;> rfl)); (case hn => (simp only [go_sem, *] <;> rfl)); (case hp => first | exact all_ok _ _ hm hl | (have hXz := all_ok _ _ hm hl; simp only [go_sem, *] at hXz; exact hXz)); (case hd => first | exact .inl rfl | exact .inr (.v _) | exact .inr .any | exact .inr .nils); (case hm => first | decide | (simp; done)))
    | (apply sl_c; (case hc => (simp only [go_sem, *] <;> rfl)); (case hl => (simp only [go_sem, *] <;> rfl)); (case hn => (simp only [go_sem, *] <;> rfl)); (case hp => first | exact all_ok _ _ hl hm | (have hXz := all_ok _ _ hl hm; simp only [go_sem, *] at hXz; exact hXz)); (case hd => first | exact .inl rfl | exact .inr (.v _) | exact .inr .any | exact .inr .nils); (case hm => first | decide | (simp; done)))
    | (apply sl_cg; (case hop => rfl); (case hv => (simp only [go_sem, *] <;> rfl)); (case hc => (simp only [go_sem, *] <;> rfl)); (case hl => (simp only [go_sem, *] <;> rfl)); (case hn => (simp only [go_sem, *] <;> rfl)); (case hp => first | exact all_ok _ _ hl hm | (have hXz := all_ok _ _ hl hm; simp only [go_sem, *] at hXz; exact hXz)); (case hd => first | exact .inl rfl | exact .inr (.v _) | exact .inr .any | exact .inr .nils); (case hm => first | decide | (simp; done)))
    | (apply sl_case; (case hv => (simp only [go_sem, *] <;> rfl)); all_goals (intro hg; (try simp only [Bool.not_true, Bool.not_false, reduceCtorEq] at hg)))
    | (refine sl_nil (And.intro (by first | exact drawOk_of (by decide +kernel) | decide) ?_)))
        all_goals refine Lower.int ?_
        all_goals simp only [restR, stR, *, Bool.not_true, Bool.true_or, Bool.or_true, Bool.or_false, Bool.or_self, Bool.and_self, Bool.and_false, Bool.false_and, Bool.and_true, Bool.true_and, reduceIte, Bool.false_eq_true]
end Go.Proofs
end
section
set_option linter.unusedVariables false
set_option linter.unusedSimpArgs false
namespace Go.Proofs
open Go Go.Ab
set_option maxHeartbeats 4000000
set_option maxRecDepth 100000
set_option linter.unusedSimpArgs false
set_option linter.unusedVariables false
def newP (w : Wd) (m : Int) : List Int := Lib.compact (sortI (w.passed ++ [m]))
def inspectE (w : Wd) (k m : Int) (pass : Bool) : Wd × Int :=
  if w.state != 2 then (zeroW, 14) else if !(methods k w.cls).contains m || w.passed.contains m then (zeroW, 32)
  else if !pass then (⟨w.seam, if decide (w.repairs < 2) then 3 else 5, w.cls, w.proc, w.by_, w.at_, w.repairs, w.passed⟩, 0)
  else (⟨w.seam, if allIn (newP w m) (methods k w.cls) then 4 else w.state, w.cls, w.proc, w.by_, w.at_, w.repairs, newP w m⟩, 0)
attribute [local irreducible] Awp aops aopsL Go.Ab.Pure PureOwn
theorem inspect_ok (w : Wd) (k m : Int) (pass : Bool) (hl : w.passed.length < 999999) : Pure Tryd.prog 22 [w.av, .v (.int .i64 k), .v (.int .i64 m), .v (.bool pass)] (resW (inspectE w k m pass)) := by
  have hm := methods_len k w.cls
  have hl1 : w.passed.length < 1000000 := by omega
  have hl2 : (w.passed ++ [m]).length < 1000000 := by simp; omega
  have hl3 : (sortI (w.passed ++ [m])).length < 1000000 := by rw [sortI_len]; exact hl2
  have hl4 : (newP w m).length < 1000000 := Nat.lt_of_le_of_lt (compact_len _) hl3
  refine fn_pure Tryd.F22 (Nat.le_of_ble_eq_true rfl) ?_; unfold Tryd.ac22
  repeat' (first
    | (apply Awp.sreg; (case hn => (simp only [List.length_cons, List.length_nil, Nat.reduceAdd] <;> rfl)))
    | (apply Awp.sdraw; (case hn => (simp only [List.length_cons, List.length_nil, Nat.reduceAdd] <;> rfl)))
    | (refine st_nil ?_)
    | (apply st_a; (case hc => rfl); (case he => (simp only [go_sem, *] <;> rfl)); (case hu => (simp only [updL_nil, updL_cons] <;> rfl)); (case hp => first | trivial | assumption | omega | (simp; done) | (simp; omega) | (simp [*]; done) | ((repeat' (refine And.intro ?_ ?_)) <;> first | trivial | assumption | omega | (simp; done) | (simp; omega) | (simp [*]; done))))
    | (apply st_m; (case hc => rfl); (case hg => (simp only [go_sem, *] <;> rfl)); (case he => (intro hQz; (try simp only [wantB_t, wantB_f, Bool.and_eq_true, Bool.not_eq_true', Bool.not_true, Bool.not_false, and_true, true_and] at hQz); simp only [go_sem, *] <;> rfl)); (case hp => (intro hQz; (try simp only [wantB_t, wantB_f, Bool.and_eq_true, Bool.not_eq_true', Bool.or_eq_false_iff, decide_eq_true_eq, decide_eq_false_iff_not, beq_iff_eq, beq_eq_false_iff_ne, bne_iff_ne, bne_eq_false_iff_eq, Int.not_lt, Int.not_le, Int.ofNat_lt, Int.ofNat_le] at hQz); first | trivial | assumption | omega | (simp; done) | (simp; omega) | (simp [*]; done) | ((repeat' (refine And.intro ?_ ?_)) <;> first | trivial | assumption | omega | (simp; done) | (simp; omega) | (simp [*]; done)))))
    | (apply st_mc; (case hop => rfl); (case hg => (simp only [go_sem, *] <;> rfl)); (case hc => (intro hQz; (try simp only [wantB_t, wantB_f, Bool.and_eq_true, Bool.not_eq_true', Bool.not_true, Bool.not_false, and_true, true_and] at hQz); simp only [go_sem, *] <;> rfl)); (case hl => (intro hQz; (try simp only [wantB_t, wantB_f, Bool.and_eq_true, Bool.not_eq_true', Bool.not_true, Bool.not_false, and_true, true_and] at hQz); simp only [go_sem, *] <;> rfl)); (case hn => (intro hQz; (try simp only [wantB_t, wantB_f, Bool.and_eq_true, Bool.not_eq_true', Bool.not_true, Bool.not_false, and_true, true_and] at hQz); simp only [go_sem, *] <;> rfl)); (case hp => intro hQz; first | exact methods_ok _ _ | (have hXz := methods_ok _ _; simp only [go_sem, *] at hXz; exact hXz)))
    | (apply st_c; (case hc => (simp only [go_sem, *] <;> rfl)); (case hl => (simp only [go_sem, *] <;> rfl)); (case hn => (simp only [go_sem, *] <;> rfl)); (case hp => first | exact methods_ok _ _ | (have hXz := methods_ok _ _; simp only [go_sem, *] at hXz; exact hXz)))
    | (apply st_cd; (case hc => (simp only [go_sem, *] <;> rfl)); (case hl => (simp only [go_sem, *] <;> rfl)); (case hn => (simp only [go_sem, *] <;> rfl)); (case hp => first | exact methods_ok _ _ | (have hXz := methods_ok _ _; simp only [go_sem, *] at hXz; exact hXz)); (case hd => first | exact .v _ | exact .any | exact .nils); (case hm => first | decide | (simp; done)))
    | (apply st_mc; (case hop => rfl); (case hg => (simp only [go_sem, *] <;> rfl)); (case hc => (intro hQz; (try simp only [wantB_t, wantB_f, Bool.and_eq_true, Bool.not_eq_true', Bool.not_true, Bool.not_false, and_true, true_and] at hQz); simp only [go_sem, *] <;> rfl)); (case hl => (intro hQz; (try simp only [wantB_t, wantB_f, Bool.and_eq_true, Bool.not_eq_true', Bool.not_true, Bool.not_false, and_true, true_and] at hQz); simp only [go_sem, *] <;> rfl)); (case hn => (intro hQz; (try simp only [wantB_t, wantB_f, Bool.and_eq_true, Bool.not_eq_true', Bool.not_true, Bool.not_false, and_true, true_and] at hQz); simp only [go_sem, *] <;> rfl)); (case hp => intro hQz; first | exact contains_ok _ _ hm | (have hXz := contains_ok _ _ hm; simp only [go_sem, *] at hXz; exact hXz)))
    | (apply st_c; (case hc => (simp only [go_sem, *] <;> rfl)); (case hl => (simp only [go_sem, *] <;> rfl)); (case hn => (simp only [go_sem, *] <;> rfl)); (case hp => first | exact contains_ok _ _ hm | (have hXz := contains_ok _ _ hm; simp only [go_sem, *] at hXz; exact hXz)))
    | (apply st_cd; (case hc => (simp only [go_sem, *] <;> rfl)); (case hl => (simp only [go_sem, *] <;> rfl)); (case hn => (simp only [go_sem, *] <;> rfl)); (case hp => first | exact contains_ok _ _ hm | (have hXz := contains_ok _ _ hm; simp only [go_sem, *] at hXz; exact hXz)); (case hd => first | exact .v _ | exact .any | exact .nils); (case hm => first | decide | (simp; done)))
    | (apply st_mc; (case hop => rfl); (case hg => (simp only [go_sem, *] <;> rfl)); (case hc => (intro hQz; (try simp only [wantB_t, wantB_f, Bool.and_eq_true, Bool.not_eq_true', Bool.not_true, Bool.not_false, and_true, true_and] at hQz); simp only [go_sem, *] <;> rfl)); (case hl => (intro hQz; (try simp only [wantB_t, wantB_f, Bool.and_eq_true, Bool.not_eq_true', Bool.not_true, Bool.not_false, and_true, true_and] at hQz); simp only [go_sem, *] <;> rfl)); (case hn => (intro hQz; (try simp only [wantB_t, wantB_f, Bool.and_eq_true, Bool.not_eq_true', Bool.not_true, Bool.not_false, and_true, true_and] at hQz); simp only [go_sem, *] <;> rfl)); (case hp => intro hQz; first | exact contains_ok _ _ hl1 | (have hXz := contains_ok _ _ hl1; simp only [go_sem, *] at hXz; exact hXz)))
    | (apply st_c; (case hc => (simp only [go_sem, *] <;> rfl)); (case hl => (simp only [go_sem, *] <;> rfl)); (case hn => (simp only [go_sem, *] <;> rfl)); (case hp => first | exact contains_ok _ _ hl1 | (have hXz := contains_ok _ _ hl1; simp only [go_sem, *] at hXz; exact hXz)))
    | (apply st_cd; (case hc => (simp only [go_sem, *] <;> rfl)); (case hl => (simp only [go_sem, *] <;> rfl)); (case hn => (simp only [go_sem, *] <;> rfl)); (case hp => first | exact contains_ok _ _ hl1 | (have hXz := contains_ok _ _ hl1; simp only [go_sem, *] at hXz; exact hXz)); (case hd => first | exact .v _ | exact .any | exact .nils); (case hm => first | decide | (simp; done)))
    | (apply st_co; (case hc => (simp only [go_sem, *] <;> rfl)); (case hl => (simp only [go_sem, *] <;> rfl)); (case hn => (simp only [go_sem, *] <;> rfl)); (case hp => first | exact clone_ok _ hl1 | (have hXz := clone_ok _ hl1; simp only [go_sem, *] at hXz; exact hXz)))
    | (apply st_cc; (case hc => (simp only [go_sem, *] <;> rfl)); (case hcc => exact sort_cc (w.passed ++ [m]) _ _ 3 hl2); (case hh => (simp only [List.mem_singleton, forall_eq]; first | (simp only [go_sem, *] <;> rfl) | (simp only [go_sem, *]; simp [ints]))); (case hu => (first | (simp; done) | decide)); (case hm => (first | decide | (simp; done))); (case hw => (simp only [updL_nil, updL_cons] <;> rfl)))
    | (apply st_cc; (case hc => (simp only [go_sem, *] <;> rfl)); (case hcc => exact compact_cc (sortI (w.passed ++ [m])) _ _ 3 (by decide) hl3); (case hh => (simp only [List.mem_singleton, forall_eq]; first | (simp only [go_sem, *] <;> rfl) | (simp only [go_sem, *]; simp [ints]))); (case hu => (first | (simp; done) | decide)); (case hm => (first | decide | (simp; done))); (case hw => (simp only [updL_nil, updL_cons] <;> rfl)))
    | (apply st_mc; (case hop => rfl); (case hg => (simp only [go_sem, *] <;> rfl)); (case hc => (intro hQz; (try simp only [wantB_t, wantB_f, Bool.and_eq_true, Bool.not_eq_true', Bool.not_true, Bool.not_false, and_true, true_and] at hQz); simp only [go_sem, *] <;> rfl)); (case hl => (intro hQz; (try simp only [wantB_t, wantB_f, Bool.and_eq_true, Bool.not_eq_true', Bool.not_true, Bool.not_false, and_true, true_and] at hQz); simp only [go_sem, *] <;> rfl)); (case hn => (intro hQz; (try simp only [wantB_t, wantB_f, Bool.and_eq_true, Bool.not_eq_true', Bool.not_true, Bool.not_false, and_true, true_and] at hQz); simp only [go_sem, *] <;> rfl)); (case hp => intro hQz; first | exact complete_ok ⟨w.seam, w.state, w.cls, w.proc, w.by_, w.at_, w.repairs, newP w m⟩ k hl4 | (have hXz := complete_ok ⟨w.seam, w.state, w.cls, w.proc, w.by_, w.at_, w.repairs, newP w m⟩ k hl4; simp only [go_sem, *] at hXz; exact hXz)))
    | (apply st_c; (case hc => (simp only [go_sem, *] <;> rfl)); (case hl => (simp only [go_sem, *] <;> rfl)); (case hn => (simp only [go_sem, *] <;> rfl)); (case hp => first | exact complete_ok ⟨w.seam, w.state, w.cls, w.proc, w.by_, w.at_, w.repairs, newP w m⟩ k hl4 | (have hXz := complete_ok ⟨w.seam, w.state, w.cls, w.proc, w.by_, w.at_, w.repairs, newP w m⟩ k hl4; simp only [go_sem, *] at hXz; exact hXz)))
    | (apply st_cd; (case hc => (simp only [go_sem, *] <;> rfl)); (case hl => (simp only [go_sem, *] <;> rfl)); (case hn => (simp only [go_sem, *] <;> rfl)); (case hp => first | exact complete_ok ⟨w.seam, w.state, w.cls, w.proc, w.by_, w.at_, w.repairs, newP w m⟩ k hl4 | (have hXz := complete_ok ⟨w.seam, w.state, w.cls, w.proc, w.by_, w.at_, w.repairs, newP w m⟩ k hl4; simp only [go_sem, *] at hXz; exact hXz)); (case hd => first | exact .v _ | exact .any | exact .nils); (case hm => first | decide | (simp; done)))
    | (apply st_gu; (case hv => (simp only [go_sem, *] <;> rfl)))
    | (apply st_g; (case hv => (simp only [go_sem, *] <;> rfl)); all_goals (intro hg; (try simp only [Bool.not_true, Bool.not_false, reduceCtorEq] at hg)))
    | (apply Awp.reg; (case hn => (simp only [List.length_cons, List.length_nil, Nat.reduceAdd] <;> rfl)))
    | (refine Awp.ret ?_; try simp only [go_sem, *])
    | (refine Awp.skip ?_; try simp only [go_sem, *])
    | (refine Awp.exit ?_; try simp only [go_sem, *])
    | refine Awp.scope ?_
    | refine Awp.block ?_
    | (apply Awp.cond; (case hc => (simp only [go_sem, *] <;> rfl)); all_goals (intro hg; (try simp only [Bool.not_true, Bool.not_false, reduceCtorEq] at hg)))
    | refine Awp.seq ?_)
  all_goals simp only [inspectE, resW, Bool.false_eq_true, reduceIte, *]
  all_goals repeat' (first | exact Lower.any _ | exact Lower.bool (by first | rfl | (simp only [zeroW, ints, newP, Bool.true_and, Bool.false_and, Bool.and_true, Bool.and_false, Bool.true_or, Bool.false_or, reduceIte, Bool.false_eq_true, *]; done) | (simp only [zeroW, ints, newP, reduceIte, Bool.false_eq_true, *] <;> rfl) | (simp [zeroW, ints, newP]; done) | (simp_all [zeroW, ints, newP]; done) | omega) | exact Lower.int (by first | rfl | (simp only [zeroW, ints, newP, Bool.true_and, Bool.false_and, Bool.and_true, Bool.and_false, Bool.true_or, Bool.false_or, reduceIte, Bool.false_eq_true, *]; done) | (simp only [zeroW, ints, newP, reduceIte, Bool.false_eq_true, *] <;> rfl) | (simp [zeroW, ints, newP]; done) | (simp_all [zeroW, ints, newP]; done) | omega) | exact Lower.str (by first | rfl | (simp only [zeroW, ints, newP, Bool.true_and, Bool.false_and, Bool.and_true, Bool.and_false, Bool.true_or, Bool.false_or, reduceIte, Bool.false_eq_true, *]; done) | (simp only [zeroW, ints, newP, reduceIte, Bool.false_eq_true, *] <;> rfl) | (simp [zeroW, ints, newP]; done) | (simp_all [zeroW, ints, newP]; done) | omega) | exact Lower.ownE (by simp only [go_sem, *] <;> rfl) (by first | rfl | (simp only [zeroW, ints, newP, Bool.true_and, Bool.false_and, Bool.and_true, Bool.and_false, Bool.true_or, Bool.false_or, reduceIte, Bool.false_eq_true, *]; done) | (simp only [zeroW, ints, newP, reduceIte, Bool.false_eq_true, *] <;> rfl) | (simp [zeroW, ints, newP]; done) | (simp_all [zeroW, ints, newP]; done) | omega) | exact Lower.nilE (by first | rfl | (simp only [zeroW, ints, newP, Bool.true_and, Bool.false_and, Bool.and_true, Bool.and_false, Bool.true_or, Bool.false_or, reduceIte, Bool.false_eq_true, *]; done) | (simp only [zeroW, ints, newP, reduceIte, Bool.false_eq_true, *] <;> rfl) | (simp [zeroW, ints, newP]; done) | (simp_all [zeroW, ints, newP]; done) | omega) | exact Lower.slE' (by first | rfl | (simp only [zeroW, ints, newP, Bool.true_and, Bool.false_and, Bool.and_true, Bool.and_false, Bool.true_or, Bool.false_or, reduceIte, Bool.false_eq_true, *]; done) | (simp only [zeroW, ints, newP, reduceIte, Bool.false_eq_true, *] <;> rfl) | (simp [zeroW, ints, newP]; done) | (simp_all [zeroW, ints, newP]; done) | omega) | exact Lower.same _ rfl | refine Lower.aggF ?_ | refine Lower.tupF ?_ | refine All2.cons ?_ ?_ | exact All2.nil)
end Go.Proofs
end
section
set_option linter.unusedVariables false
set_option linter.unusedSimpArgs false
namespace Go.Proofs
open Go Go.Ab
set_option maxHeartbeats 4000000
set_option maxRecDepth 100000
set_option linter.unusedSimpArgs false
set_option linter.unusedVariables false
def bS1 : ByteArray := ⟨⟨[83, 49]⟩⟩
def bW1 : ByteArray := ⟨⟨[87, 49]⟩⟩
def bAnn : ByteArray := ⟨⟨[65, 110, 110]⟩⟩
def bBob : ByteArray := ⟨⟨[66, 111, 98]⟩⟩
def exS : Sm := ⟨bS1, ⟨⟨[]⟩⟩, ⟨⟨[]⟩⟩, 1, 0, 2⟩
def exW : Wd := ⟨bS1, 1, 2, ⟨⟨[]⟩⟩, ⟨⟨[]⟩⟩, 0, 0, []⟩
def exA : Wd := ⟨bS1, 2, 2, bW1, bAnn, 5, 0, []⟩
def exB : Wd := ⟨bS1, 2, 2, bW1, bAnn, 5, 0, [1]⟩
def exC : Wd := ⟨bS1, 4, 2, bW1, bAnn, 5, 0, [1, 3]⟩
def exD : Wd := ⟨bS1, 3, 2, bW1, bAnn, 5, 0, [1]⟩
def exR : Wd := ⟨bS1, 2, 2, bW1, bBob, 9, 1, []⟩
theorem nW1 : nameB bW1 = true := by decide
theorem nAnn : nameB bAnn = true := by decide
theorem nBob : nameB bBob = true := by decide
theorem iS1 : idB bS1 = true := by decide
theorem srt {l : List Int} (h : l.Pairwise fun x y => decide (x ≤ y) = true) : sortI l = l := List.mergeSort_of_pairwise h
theorem exN1 : newP exA 1 = [1] := by
  rw [newP, show exA.passed ++ [1] = [1] from rfl, srt (by simp)]; decide
theorem exN3 : newP exB 3 = [1, 3] := by
  rw [newP, show exB.passed ++ [3] = [1, 3] from rfl, srt (by simp)]; decide
theorem ex1 : startE exW bW1 bAnn 5 = (exA, 0) := by
  unfold startE; rw [nW1, nAnn]; rfl
theorem ex2 : inspectE exA 1 1 true = (exB, 0) := by
  unfold inspectE; rw [exN1]; rfl
theorem ex3 : inspectE exB 1 1 true = (zeroW, 32) := rfl
theorem ex4 : inspectE exB 1 3 true = (exC, 0) := by
  unfold inspectE; rw [exN3]; rfl
theorem ex5 : inspectE exB 1 3 false = (exD, 0) := rfl
theorem ex6 : repairE exD bW1 bBob 9 = (exR, 0) := rfl
theorem ex7 : inspectE exW 1 1 true = (zeroW, 14) := rfl
theorem ex8 : checkE exC 1 = 0 := by decide
theorem sameB_self (w : Wd) : sameB w w = true := by simp [sameB]
attribute [local irreducible] Awp aops aopsL Go.Ab.Pure PureOwn
theorem alive_ok : Pure Tryd.prog 10 [] (.v (.bool true)) := by
  have c0 := new_ok exS
  have c1 := start_ok exW bW1 bAnn 5
  have c2 := inspect_ok exA 1 1 true (by decide)
  have c3 := inspect_ok exB 1 1 true (by decide)
  have c4 := inspect_ok exB 1 3 true (by decide)
  have c5 := inspect_ok exB 1 3 false (by decide)
  have c6 := repair_ok exD bW1 bBob 9
  have c7 := inspect_ok exW 1 1 true (by decide)
  have c8 := check_ok exC 1 (by decide)
  have c9 := same12_ok exR exR (by decide) (by decide)
  have c10 := same17_ok exC exC (by decide) (by decide)
  have c11 := accepted_ok exC
  have c12 := accepted_ok exB
  rw [ex1] at c1; rw [ex2] at c2; rw [ex3] at c3; rw [ex4] at c4; rw [ex5] at c5; rw [ex6] at c6; rw [ex7] at c7; rw [ex8] at c8; rw [sameB_self] at c9 c10
  have d11 : (exC.state == 4) = true := rfl
  have d12 : (exB.state == 4) = false := rfl
  have d13 : (exD.state == 3) = true := rfl
  rw [d11] at c11; rw [d12] at c12
  refine fn_pure Tryd.F10 (Nat.le_of_ble_eq_true rfl) ?_; unfold Tryd.ac10
  repeat' (first
    | (apply Awp.sreg; (case hn => (simp only [List.length_cons, List.length_nil, Nat.reduceAdd] <;> rfl)))
    | (apply Awp.sdraw; (case hn => (simp only [List.length_cons, List.length_nil, Nat.reduceAdd] <;> rfl)))
    | (refine st_nil ?_)
    | (apply st_a; (case hc => rfl); (case he => (simp only [go_sem, *] <;> rfl)); (case hu => (simp only [updL_nil, updL_cons] <;> rfl)); (case hp => first | trivial | assumption | omega | (simp; done) | (simp; omega) | (simp [*]; done) | ((repeat' (refine And.intro ?_ ?_)) <;> first | trivial | assumption | omega | (simp; done) | (simp; omega) | (simp [*]; done))))
    | (apply st_m; (case hc => rfl); (case hg => (simp only [go_sem, *] <;> rfl)); (case he => (intro hQz; (try simp only [wantB_t, wantB_f, Bool.and_eq_true, Bool.not_eq_true', Bool.not_true, Bool.not_false, and_true, true_and] at hQz); simp only [go_sem, *] <;> rfl)); (case hp => (intro hQz; (try simp only [wantB_t, wantB_f, Bool.and_eq_true, Bool.not_eq_true', Bool.or_eq_false_iff, decide_eq_true_eq, decide_eq_false_iff_not, beq_iff_eq, beq_eq_false_iff_ne, bne_iff_ne, bne_eq_false_iff_eq, Int.not_lt, Int.not_le, Int.ofNat_lt, Int.ofNat_le] at hQz); first | trivial | assumption | omega | (simp; done) | (simp; omega) | (simp [*]; done) | ((repeat' (refine And.intro ?_ ?_)) <;> first | trivial | assumption | omega | (simp; done) | (simp; omega) | (simp [*]; done)))))
    | (apply st_mc; (case hop => rfl); (case hg => (simp only [go_sem, *] <;> rfl)); (case hc => (intro hQz; (try simp only [wantB_t, wantB_f, Bool.and_eq_true, Bool.not_eq_true', Bool.not_true, Bool.not_false, and_true, true_and] at hQz); simp only [go_sem, *] <;> rfl)); (case hl => (intro hQz; (try simp only [wantB_t, wantB_f, Bool.and_eq_true, Bool.not_eq_true', Bool.not_true, Bool.not_false, and_true, true_and] at hQz); simp only [go_sem, *] <;> rfl)); (case hn => (intro hQz; (try simp only [wantB_t, wantB_f, Bool.and_eq_true, Bool.not_eq_true', Bool.not_true, Bool.not_false, and_true, true_and] at hQz); simp only [go_sem, *] <;> rfl)); (case hp => intro hQz; first | exact c0 | (have hXz := c0; simp only [go_sem, *] at hXz; exact hXz)))
    | (apply st_c; (case hc => (simp only [go_sem, *] <;> rfl)); (case hl => (simp only [go_sem, *] <;> rfl)); (case hn => (simp only [go_sem, *] <;> rfl)); (case hp => first | exact c0 | (have hXz := c0; simp only [go_sem, *] at hXz; exact hXz)))
    | (apply st_cd; (case hc => (simp only [go_sem, *] <;> rfl)); (case hl => (simp only [go_sem, *] <;> rfl)); (case hn => (simp only [go_sem, *] <;> rfl)); (case hp => first | exact c0 | (have hXz := c0; simp only [go_sem, *] at hXz; exact hXz)); (case hd => first | exact .v _ | exact .any | exact .nils); (case hm => first | decide | (simp; done)))
    | (apply st_mc; (case hop => rfl); (case hg => (simp only [go_sem, *] <;> rfl)); (case hc => (intro hQz; (try simp only [wantB_t, wantB_f, Bool.and_eq_true, Bool.not_eq_true', Bool.not_true, Bool.not_false, and_true, true_and] at hQz); simp only [go_sem, *] <;> rfl)); (case hl => (intro hQz; (try simp only [wantB_t, wantB_f, Bool.and_eq_true, Bool.not_eq_true', Bool.not_true, Bool.not_false, and_true, true_and] at hQz); simp only [go_sem, *] <;> rfl)); (case hn => (intro hQz; (try simp only [wantB_t, wantB_f, Bool.and_eq_true, Bool.not_eq_true', Bool.not_true, Bool.not_false, and_true, true_and] at hQz); simp only [go_sem, *] <;> rfl)); (case hp => intro hQz; first | exact c1 | (have hXz := c1; simp only [go_sem, *] at hXz; exact hXz)))
    | (apply st_c; (case hc => (simp only [go_sem, *] <;> rfl)); (case hl => (simp only [go_sem, *] <;> rfl)); (case hn => (simp only [go_sem, *] <;> rfl)); (case hp => first | exact c1 | (have hXz := c1; simp only [go_sem, *] at hXz; exact hXz)))
    | (apply st_cd; (case hc => (simp only [go_sem, *] <;> rfl)); (case hl => (simp only [go_sem, *] <;> rfl)); (case hn => (simp only [go_sem, *] <;> rfl)); (case hp => first | exact c1 | (have hXz := c1; simp only [go_sem, *] at hXz; exact hXz)); (case hd => first | exact .v _ | exact .any | exact .nils); (case hm => first | decide | (simp; done)))
    | (apply st_mc; (case hop => rfl); (case hg => (simp only [go_sem, *] <;> rfl)); (case hc => (intro hQz; (try simp only [wantB_t, wantB_f, Bool.and_eq_true, Bool.not_eq_true', Bool.not_true, Bool.not_false, and_true, true_and] at hQz); simp only [go_sem, *] <;> rfl)); (case hl => (intro hQz; (try simp only [wantB_t, wantB_f, Bool.and_eq_true, Bool.not_eq_true', Bool.not_true, Bool.not_false, and_true, true_and] at hQz); simp only [go_sem, *] <;> rfl)); (case hn => (intro hQz; (try simp only [wantB_t, wantB_f, Bool.and_eq_true, Bool.not_eq_true', Bool.not_true, Bool.not_false, and_true, true_and] at hQz); simp only [go_sem, *] <;> rfl)); (case hp => intro hQz; first | exact c2 | (have hXz := c2; simp only [go_sem, *] at hXz; exact hXz)))
    | (apply st_c; (case hc => (simp only [go_sem, *] <;> rfl)); (case hl => (simp only [go_sem, *] <;> rfl)); (case hn => (simp only [go_sem, *] <;> rfl)); (case hp => first | exact c2 | (have hXz := c2; simp only [go_sem, *] at hXz; exact hXz)))
    | (apply st_cd; (case hc => (simp only [go_sem, *] <;> rfl)); (case hl => (simp only [go_sem, *] <;> rfl)); (case hn => (simp only [go_sem, *] <;> rfl)); (case hp => first | exact c2 | (have hXz := c2; simp only [go_sem, *] at hXz; exact hXz)); (case hd => first | exact .v _ | exact .any | exact .nils); (case hm => first | decide | (simp; done)))
    | (apply st_mc; (case hop => rfl); (case hg => (simp only [go_sem, *] <;> rfl)); (case hc => (intro hQz; (try simp only [wantB_t, wantB_f, Bool.and_eq_true, Bool.not_eq_true', Bool.not_true, Bool.not_false, and_true, true_and] at hQz); simp only [go_sem, *] <;> rfl)); (case hl => (intro hQz; (try simp only [wantB_t, wantB_f, Bool.and_eq_true, Bool.not_eq_true', Bool.not_true, Bool.not_false, and_true, true_and] at hQz); simp only [go_sem, *] <;> rfl)); (case hn => (intro hQz; (try simp only [wantB_t, wantB_f, Bool.and_eq_true, Bool.not_eq_true', Bool.not_true, Bool.not_false, and_true, true_and] at hQz); simp only [go_sem, *] <;> rfl)); (case hp => intro hQz; first | exact c3 | (have hXz := c3; simp only [go_sem, *] at hXz; exact hXz)))
    | (apply st_c; (case hc => (simp only [go_sem, *] <;> rfl)); (case hl => (simp only [go_sem, *] <;> rfl)); (case hn => (simp only [go_sem, *] <;> rfl)); (case hp => first | exact c3 | (have hXz := c3; simp only [go_sem, *] at hXz; exact hXz)))
    | (apply st_cd; (case hc => (simp only [go_sem, *] <;> rfl)); (case hl => (simp only [go_sem, *] <;> rfl)); (case hn => (simp only [go_sem, *] <;> rfl)); (case hp => first | exact c3 | (have hXz := c3; simp only [go_sem, *] at hXz; exact hXz)); (case hd => first | exact .v _ | exact .any | exact .nils); (case hm => first | decide | (simp; done)))
    | (apply st_mc; (case hop => rfl); (case hg => (simp only [go_sem, *] <;> rfl)); (case hc => (intro hQz; (try simp only [wantB_t, wantB_f, Bool.and_eq_true, Bool.not_eq_true', Bool.not_true, Bool.not_false, and_true, true_and] at hQz); simp only [go_sem, *] <;> rfl)); (case hl => (intro hQz; (try simp only [wantB_t, wantB_f, Bool.and_eq_true, Bool.not_eq_true', Bool.not_true, Bool.not_false, and_true, true_and] at hQz); simp only [go_sem, *] <;> rfl)); (case hn => (intro hQz; (try simp only [wantB_t, wantB_f, Bool.and_eq_true, Bool.not_eq_true', Bool.not_true, Bool.not_false, and_true, true_and] at hQz); simp only [go_sem, *] <;> rfl)); (case hp => intro hQz; first | exact c4 | (have hXz := c4; simp only [go_sem, *] at hXz; exact hXz)))
    | (apply st_c; (case hc => (simp only [go_sem, *] <;> rfl)); (case hl => (simp only [go_sem, *] <;> rfl)); (case hn => (simp only [go_sem, *] <;> rfl)); (case hp => first | exact c4 | (have hXz := c4; simp only [go_sem, *] at hXz; exact hXz)))
    | (apply st_cd; (case hc => (simp only [go_sem, *] <;> rfl)); (case hl => (simp only [go_sem, *] <;> rfl)); (case hn => (simp only [go_sem, *] <;> rfl)); (case hp => first | exact c4 | (have hXz := c4; simp only [go_sem, *] at hXz; exact hXz)); (case hd => first | exact .v _ | exact .any | exact .nils); (case hm => first | decide | (simp; done)))
    | (apply st_mc; (case hop => rfl); (case hg => (simp only [go_sem, *] <;> rfl)); (case hc => (intro hQz; (try simp only [wantB_t, wantB_f, Bool.and_eq_true, Bool.not_eq_true', Bool.not_true, Bool.not_false, and_true, true_and] at hQz); simp only [go_sem, *] <;> rfl)); (case hl => (intro hQz; (try simp only [wantB_t, wantB_f, Bool.and_eq_true, Bool.not_eq_true', Bool.not_true, Bool.not_false, and_true, true_and] at hQz); simp only [go_sem, *] <;> rfl)); (case hn => (intro hQz; (try simp only [wantB_t, wantB_f, Bool.and_eq_true, Bool.not_eq_true', Bool.not_true, Bool.not_false, and_true, true_and] at hQz); simp only [go_sem, *] <;> rfl)); (case hp => intro hQz; first | exact c5 | (have hXz := c5; simp only [go_sem, *] at hXz; exact hXz)))
    | (apply st_c; (case hc => (simp only [go_sem, *] <;> rfl)); (case hl => (simp only [go_sem, *] <;> rfl)); (case hn => (simp only [go_sem, *] <;> rfl)); (case hp => first | exact c5 | (have hXz := c5; simp only [go_sem, *] at hXz; exact hXz)))
    | (apply st_cd; (case hc => (simp only [go_sem, *] <;> rfl)); (case hl => (simp only [go_sem, *] <;> rfl)); (case hn => (simp only [go_sem, *] <;> rfl)); (case hp => first | exact c5 | (have hXz := c5; simp only [go_sem, *] at hXz; exact hXz)); (case hd => first | exact .v _ | exact .any | exact .nils); (case hm => first | decide | (simp; done)))
    | (apply st_mc; (case hop => rfl); (case hg => (simp only [go_sem, *] <;> rfl)); (case hc => (intro hQz; (try simp only [wantB_t, wantB_f, Bool.and_eq_true, Bool.not_eq_true', Bool.not_true, Bool.not_false, and_true, true_and] at hQz); simp only [go_sem, *] <;> rfl)); (case hl => (intro hQz; (try simp only [wantB_t, wantB_f, Bool.and_eq_true, Bool.not_eq_true', Bool.not_true, Bool.not_false, and_true, true_and] at hQz); simp only [go_sem, *] <;> rfl)); (case hn => (intro hQz; (try simp only [wantB_t, wantB_f, Bool.and_eq_true, Bool.not_eq_true', Bool.not_true, Bool.not_false, and_true, true_and] at hQz); simp only [go_sem, *] <;> rfl)); (case hp => intro hQz; first | exact c6 | (have hXz := c6; simp only [go_sem, *] at hXz; exact hXz)))
    | (apply st_c; (case hc => (simp only [go_sem, *] <;> rfl)); (case hl => (simp only [go_sem, *] <;> rfl)); (case hn => (simp only [go_sem, *] <;> rfl)); (case hp => first | exact c6 | (have hXz := c6; simp only [go_sem, *] at hXz; exact hXz)))
    | (apply st_cd; (case hc => (simp only [go_sem, *] <;> rfl)); (case hl => (simp only [go_sem, *] <;> rfl)); (case hn => (simp only [go_sem, *] <;> rfl)); (case hp => first | exact c6 | (have hXz := c6; simp only [go_sem, *] at hXz; exact hXz)); (case hd => first | exact .v _ | exact .any | exact .nils); (case hm => first | decide | (simp; done)))
    | (apply st_mc; (case hop => rfl); (case hg => (simp only [go_sem, *] <;> rfl)); (case hc => (intro hQz; (try simp only [wantB_t, wantB_f, Bool.and_eq_true, Bool.not_eq_true', Bool.not_true, Bool.not_false, and_true, true_and] at hQz); simp only [go_sem, *] <;> rfl)); (case hl => (intro hQz; (try simp only [wantB_t, wantB_f, Bool.and_eq_true, Bool.not_eq_true', Bool.not_true, Bool.not_false, and_true, true_and] at hQz); simp only [go_sem, *] <;> rfl)); (case hn => (intro hQz; (try simp only [wantB_t, wantB_f, Bool.and_eq_true, Bool.not_eq_true', Bool.not_true, Bool.not_false, and_true, true_and] at hQz); simp only [go_sem, *] <;> rfl)); (case hp => intro hQz; first | exact c7 | (have hXz := c7; simp only [go_sem, *] at hXz; exact hXz)))
    | (apply st_c; (case hc => (simp only [go_sem, *] <;> rfl)); (case hl => (simp only [go_sem, *] <;> rfl)); (case hn => (simp only [go_sem, *] <;> rfl)); (case hp => first | exact c7 | (have hXz := c7; simp only [go_sem, *] at hXz; exact hXz)))
    | (apply st_cd; (case hc => (simp only [go_sem, *] <;> rfl)); (case hl => (simp only [go_sem, *] <;> rfl)); (case hn => (simp only [go_sem, *] <;> rfl)); (case hp => first | exact c7 | (have hXz := c7; simp only [go_sem, *] at hXz; exact hXz)); (case hd => first | exact .v _ | exact .any | exact .nils); (case hm => first | decide | (simp; done)))
    | (apply st_mc; (case hop => rfl); (case hg => (simp only [go_sem, *] <;> rfl)); (case hc => (intro hQz; (try simp only [wantB_t, wantB_f, Bool.and_eq_true, Bool.not_eq_true', Bool.not_true, Bool.not_false, and_true, true_and] at hQz); simp only [go_sem, *] <;> rfl)); (case hl => (intro hQz; (try simp only [wantB_t, wantB_f, Bool.and_eq_true, Bool.not_eq_true', Bool.not_true, Bool.not_false, and_true, true_and] at hQz); simp only [go_sem, *] <;> rfl)); (case hn => (intro hQz; (try simp only [wantB_t, wantB_f, Bool.and_eq_true, Bool.not_eq_true', Bool.not_true, Bool.not_false, and_true, true_and] at hQz); simp only [go_sem, *] <;> rfl)); (case hp => intro hQz; first | exact c8 | (have hXz := c8; simp only [go_sem, *] at hXz; exact hXz)))
    | (apply st_c; (case hc => (simp only [go_sem, *] <;> rfl)); (case hl => (simp only [go_sem, *] <;> rfl)); (case hn => (simp only [go_sem, *] <;> rfl)); (case hp => first | exact c8 | (have hXz := c8; simp only [go_sem, *] at hXz; exact hXz)))
    | (apply st_cd; (case hc => (simp only [go_sem, *] <;> rfl)); (case hl => (simp only [go_sem, *] <;> rfl)); (case hn => (simp only [go_sem, *] <;> rfl)); (case hp => first | exact c8 | (have hXz := c8; simp only [go_sem, *] at hXz; exact hXz)); (case hd => first | exact .v _ | exact .any | exact .nils); (case hm => first | decide | (simp; done)))
    | (apply st_mc; (case hop => rfl); (case hg => (simp only [go_sem, *] <;> rfl)); (case hc => (intro hQz; (try simp only [wantB_t, wantB_f, Bool.and_eq_true, Bool.not_eq_true', Bool.not_true, Bool.not_false, and_true, true_and] at hQz); simp only [go_sem, *] <;> rfl)); (case hl => (intro hQz; (try simp only [wantB_t, wantB_f, Bool.and_eq_true, Bool.not_eq_true', Bool.not_true, Bool.not_false, and_true, true_and] at hQz); simp only [go_sem, *] <;> rfl)); (case hn => (intro hQz; (try simp only [wantB_t, wantB_f, Bool.and_eq_true, Bool.not_eq_true', Bool.not_true, Bool.not_false, and_true, true_and] at hQz); simp only [go_sem, *] <;> rfl)); (case hp => intro hQz; first | exact c9 | (have hXz := c9; simp only [go_sem, *] at hXz; exact hXz)))
    | (apply st_c; (case hc => (simp only [go_sem, *] <;> rfl)); (case hl => (simp only [go_sem, *] <;> rfl)); (case hn => (simp only [go_sem, *] <;> rfl)); (case hp => first | exact c9 | (have hXz := c9; simp only [go_sem, *] at hXz; exact hXz)))
    | (apply st_cd; (case hc => (simp only [go_sem, *] <;> rfl)); (case hl => (simp only [go_sem, *] <;> rfl)); (case hn => (simp only [go_sem, *] <;> rfl)); (case hp => first | exact c9 | (have hXz := c9; simp only [go_sem, *] at hXz; exact hXz)); (case hd => first | exact .v _ | exact .any | exact .nils); (case hm => first | decide | (simp; done)))
    | (apply st_mc; (case hop => rfl); (case hg => (simp only [go_sem, *] <;> rfl)); (case hc => (intro hQz; (try simp only [wantB_t, wantB_f, Bool.and_eq_true, Bool.not_eq_true', Bool.not_true, Bool.not_false, and_true, true_and] at hQz); simp only [go_sem, *] <;> rfl)); (case hl => (intro hQz; (try simp only [wantB_t, wantB_f, Bool.and_eq_true, Bool.not_eq_true', Bool.not_true, Bool.not_false, and_true, true_and] at hQz); simp only [go_sem, *] <;> rfl)); (case hn => (intro hQz; (try simp only [wantB_t, wantB_f, Bool.and_eq_true, Bool.not_eq_true', Bool.not_true, Bool.not_false, and_true, true_and] at hQz); simp only [go_sem, *] <;> rfl)); (case hp => intro hQz; first | exact c10 | (have hXz := c10; simp only [go_sem, *] at hXz; exact hXz)))
    | (apply st_c; (case hc => (simp only [go_sem, *] <;> rfl)); (case hl => (simp only [go_sem, *] <;> rfl)); (case hn => (simp only [go_sem, *] <;> rfl)); (case hp => first | exact c10 | (have hXz := c10; simp only [go_sem, *] at hXz; exact hXz)))
    | (apply st_cd; (case hc => (simp only [go_sem, *] <;> rfl)); (case hl => (simp only [go_sem, *] <;> rfl)); (case hn => (simp only [go_sem, *] <;> rfl)); (case hp => first | exact c10 | (have hXz := c10; simp only [go_sem, *] at hXz; exact hXz)); (case hd => first | exact .v _ | exact .any | exact .nils); (case hm => first | decide | (simp; done)))
    | (apply st_mc; (case hop => rfl); (case hg => (simp only [go_sem, *] <;> rfl)); (case hc => (intro hQz; (try simp only [wantB_t, wantB_f, Bool.and_eq_true, Bool.not_eq_true', Bool.not_true, Bool.not_false, and_true, true_and] at hQz); simp only [go_sem, *] <;> rfl)); (case hl => (intro hQz; (try simp only [wantB_t, wantB_f, Bool.and_eq_true, Bool.not_eq_true', Bool.not_true, Bool.not_false, and_true, true_and] at hQz); simp only [go_sem, *] <;> rfl)); (case hn => (intro hQz; (try simp only [wantB_t, wantB_f, Bool.and_eq_true, Bool.not_eq_true', Bool.not_true, Bool.not_false, and_true, true_and] at hQz); simp only [go_sem, *] <;> rfl)); (case hp => intro hQz; first | exact c11 | (have hXz := c11; simp only [go_sem, *] at hXz; exact hXz)))
    | (apply st_c; (case hc => (simp only [go_sem, *] <;> rfl)); (case hl => (simp only [go_sem, *] <;> rfl)); (case hn => (simp only [go_sem, *] <;> rfl)); (case hp => first | exact c11 | (have hXz := c11; simp only [go_sem, *] at hXz; exact hXz)))
    | (apply st_cd; (case hc => (simp only [go_sem, *] <;> rfl)); (case hl => (simp only [go_sem, *] <;> rfl)); (case hn => (simp only [go_sem, *] <;> rfl)); (case hp => first | exact c11 | (have hXz := c11; simp only [go_sem, *] at hXz; exact hXz)); (case hd => first | exact .v _ | exact .any | exact .nils); (case hm => first | decide | (simp; done)))
    | (apply st_mc; (case hop => rfl); (case hg => (simp only [go_sem, *] <;> rfl)); (case hc => (intro hQz; (try simp only [wantB_t, wantB_f, Bool.and_eq_true, Bool.not_eq_true', Bool.not_true, Bool.not_false, and_true, true_and] at hQz); simp only [go_sem, *] <;> rfl)); (case hl => (intro hQz; (try simp only [wantB_t, wantB_f, Bool.and_eq_true, Bool.not_eq_true', Bool.not_true, Bool.not_false, and_true, true_and] at hQz); simp only [go_sem, *] <;> rfl)); (case hn => (intro hQz; (try simp only [wantB_t, wantB_f, Bool.and_eq_true, Bool.not_eq_true', Bool.not_true, Bool.not_false, and_true, true_and] at hQz); simp only [go_sem, *] <;> rfl)); (case hp => intro hQz; first | exact c12 | (have hXz := c12; simp only [go_sem, *] at hXz; exact hXz)))
    | (apply st_c; (case hc => (simp only [go_sem, *] <;> rfl)); (case hl => (simp only [go_sem, *] <;> rfl)); (case hn => (simp only [go_sem, *] <;> rfl)); (case hp => first | exact c12 | (have hXz := c12; simp only [go_sem, *] at hXz; exact hXz)))
    | (apply st_cd; (case hc => (simp only [go_sem, *] <;> rfl)); (case hl => (simp only [go_sem, *] <;> rfl)); (case hn => (simp only [go_sem, *] <;> rfl)); (case hp => first | exact c12 | (have hXz := c12; simp only [go_sem, *] at hXz; exact hXz)); (case hd => first | exact .v _ | exact .any | exact .nils); (case hm => first | decide | (simp; done)))
    | (apply st_gu; (case hv => (simp only [go_sem, *] <;> rfl)))
    | (apply st_g; (case hv => (simp only [go_sem, *] <;> rfl)); all_goals (intro hg; (try simp only [Bool.not_true, Bool.not_false, reduceCtorEq] at hg)))
    | (apply Awp.reg; (case hn => (simp only [List.length_cons, List.length_nil, Nat.reduceAdd] <;> rfl)))
    | (refine Awp.ret ?_; try simp only [go_sem, *])
    | (refine Awp.skip ?_; try simp only [go_sem, *])
    | (refine Awp.exit ?_; try simp only [go_sem, *])
    | refine Awp.scope ?_
    | refine Awp.block ?_
    | (apply Awp.cond; (case hc => (simp only [go_sem, *] <;> rfl)); all_goals (intro hg; (try simp only [Bool.not_true, Bool.not_false, reduceCtorEq] at hg)))
    | refine Awp.seq ?_)
  all_goals repeat' (first | exact Lower.any _ | exact Lower.bool (by first | rfl | (simp only [true_and, Bool.true_and, Bool.false_and, Bool.and_true, Bool.and_false, Bool.true_or, Bool.false_or, reduceIte, Bool.false_eq_true, *]; done) | (simp only [true_and, reduceIte, Bool.false_eq_true, *] <;> rfl) | (simp [true_and]; done) | (simp_all [true_and]; done) | omega) | exact Lower.int (by first | rfl | (simp only [true_and, Bool.true_and, Bool.false_and, Bool.and_true, Bool.and_false, Bool.true_or, Bool.false_or, reduceIte, Bool.false_eq_true, *]; done) | (simp only [true_and, reduceIte, Bool.false_eq_true, *] <;> rfl) | (simp [true_and]; done) | (simp_all [true_and]; done) | omega) | exact Lower.str (by first | rfl | (simp only [true_and, Bool.true_and, Bool.false_and, Bool.and_true, Bool.and_false, Bool.true_or, Bool.false_or, reduceIte, Bool.false_eq_true, *]; done) | (simp only [true_and, reduceIte, Bool.false_eq_true, *] <;> rfl) | (simp [true_and]; done) | (simp_all [true_and]; done) | omega) | exact Lower.ownE (by simp only [go_sem, *] <;> rfl) (by first | rfl | (simp only [true_and, Bool.true_and, Bool.false_and, Bool.and_true, Bool.and_false, Bool.true_or, Bool.false_or, reduceIte, Bool.false_eq_true, *]; done) | (simp only [true_and, reduceIte, Bool.false_eq_true, *] <;> rfl) | (simp [true_and]; done) | (simp_all [true_and]; done) | omega) | exact Lower.nilE (by first | rfl | (simp only [true_and, Bool.true_and, Bool.false_and, Bool.and_true, Bool.and_false, Bool.true_or, Bool.false_or, reduceIte, Bool.false_eq_true, *]; done) | (simp only [true_and, reduceIte, Bool.false_eq_true, *] <;> rfl) | (simp [true_and]; done) | (simp_all [true_and]; done) | omega) | exact Lower.slE' (by first | rfl | (simp only [true_and, Bool.true_and, Bool.false_and, Bool.and_true, Bool.and_false, Bool.true_or, Bool.false_or, reduceIte, Bool.false_eq_true, *]; done) | (simp only [true_and, reduceIte, Bool.false_eq_true, *] <;> rfl) | (simp [true_and]; done) | (simp_all [true_and]; done) | omega) | exact Lower.same _ rfl | refine Lower.aggF ?_ | refine Lower.tupF ?_ | refine All2.cons ?_ ?_ | exact All2.nil)
end Go.Proofs
end
section
set_option linter.unusedVariables false
set_option linter.unusedSimpArgs false
namespace Go.Ab
open Go

/-- Two strictly ascending lists with the same members are one. -/
theorem asc_ext : ∀ {l m : List Int}, l.Pairwise (· < ·) → m.Pairwise (· < ·) → (∀ x, x ∈ l ↔ x ∈ m) → l = m
  | [], [], _, _, _ => rfl
  | [], b :: m, _, _, h => by have := (h b).2 (List.mem_cons.2 (.inl rfl)); simp at this
  | a :: l, [], _, _, h => by have := (h a).1 (List.mem_cons.2 (.inl rfl)); simp at this
  | a :: l, b :: m, hl, hm, h => by
    rw [List.pairwise_cons] at hl hm
    have hab : a = b := by
      rcases List.mem_cons.1 ((h a).1 (List.mem_cons.2 (.inl rfl))) with e | e
      · exact e
      · rcases List.mem_cons.1 ((h b).2 (List.mem_cons.2 (.inl rfl))) with e' | e'
        · exact e'.symm
        · have := hl.1 b e'; have := hm.1 a e; omega
    subst hab
    congr 1
    refine asc_ext hl.2 hm.2 fun x => ⟨fun hx => ?_, fun hx => ?_⟩
    · rcases List.mem_cons.1 ((h x).1 (List.mem_cons.2 (.inr hx))) with e | e
      · have := hl.1 x hx; omega
      · exact e
    · rcases List.mem_cons.1 ((h x).2 (List.mem_cons.2 (.inr hx))) with e | e
      · have := hm.1 x hx; omega
      · exact e

theorem compact_asc (l : List Int) (hs : l.Pairwise (· ≤ ·)) : ∀ m, m ≤ l.length →
    (Lib.compactUpTo l.toArray m).Pairwise (· < ·) ∧ ∀ x, x ∈ Lib.compactUpTo l.toArray m ↔ ∃ j, j < m ∧ l.toArray[j]! = x := by
  have le : ∀ i j, i ≤ j → j < l.length → l.toArray[i]! ≤ l.toArray[j]! := by
    intro i j hij hj
    have hi : i < l.length := by omega
    have e1 : l.toArray[i]! = l[i] := by simp [getElem!_pos, hi]
    have e2 : l.toArray[j]! = l[j] := by simp [getElem!_pos, hj]
    rw [e1, e2]
    rcases Nat.lt_or_ge i j with h | h
    · exact List.pairwise_iff_getElem.1 hs i j hi hj h
    · obtain rfl : i = j := by omega
      exact Int.le_refl _
  intro m
  induction m with
  | zero => intro _; simp [Lib.compactUpTo]
  | succ m ih =>
    intro hm
    obtain ⟨h1, h2⟩ := ih (by omega)
    rw [Lib.compactUpTo_succ]
    by_cases hk : Lib.keeps l.toArray m = true
    · rw [if_pos hk]
      refine ⟨?_, fun x => ?_⟩
      · rw [List.pairwise_append]
        refine ⟨h1, by simp, fun x hx y hy => ?_⟩
        obtain rfl : y = l.toArray[m]! := by simpa using hy
        obtain ⟨j, hj, rfl⟩ := (h2 x).1 hx
        simp only [Lib.keeps, decide_eq_true_eq] at hk
        rcases hk with hk | hk
        · omega
        · have a1 := le j (m - 1) (by omega) (by omega)
          have a2 := le (m - 1) m (by omega) (by omega)
          omega
      · rw [List.mem_append, h2]
        constructor
        · rintro (⟨j, hj, e⟩ | h)
          · exact ⟨j, by omega, e⟩
          · exact ⟨m, by omega, by simpa using (List.mem_singleton.1 h).symm⟩
        · rintro ⟨j, hj, e⟩
          rcases Nat.lt_or_ge j m with h | h
          · exact .inl ⟨j, h, e⟩
          · obtain rfl : j = m := by omega
            exact .inr (by simp [← e])
    · rw [if_neg hk, List.append_nil]
      refine ⟨h1, fun x => ?_⟩
      rw [h2]
      constructor
      · rintro ⟨j, hj, e⟩; exact ⟨j, by omega, e⟩
      · rintro ⟨j, hj, e⟩
        rcases Nat.lt_or_ge j m with h | h
        · exact ⟨j, h, e⟩
        · obtain rfl : j = m := by omega
          simp only [Lib.keeps, decide_eq_true_eq, not_or, Decidable.not_not] at hk
          exact ⟨j - 1, by omega, by rw [← hk.2, e]⟩

theorem compact_sorted (l : List Int) (hs : l.Pairwise (· ≤ ·)) : (Lib.compact l).Pairwise (· < ·) ∧ ∀ x, x ∈ Lib.compact l ↔ x ∈ l := by
  obtain ⟨h1, h2⟩ := compact_asc l hs l.length (Nat.le_refl _)
  refine ⟨h1, fun x => ?_⟩
  unfold Lib.compact
  rw [h2]
  constructor
  · rintro ⟨j, hj, rfl⟩
    simp [getElem!_pos, hj]
  · intro hx
    obtain ⟨j, hj, e⟩ := List.getElem_of_mem hx
    exact ⟨j, hj, by simp [getElem!_pos, hj, e]⟩

def sortZ (l : List Int) : List Int := l.mergeSort fun x y => decide (x ≤ y)
theorem sortZ_asc (l : List Int) : (sortZ l).Pairwise (· ≤ ·) := by
  have := List.pairwise_mergeSort (le := fun x y : Int => decide (x ≤ y)) (by intro a b c; simp; omega) (by intro a b; simp; omega) l
  simpa [sortZ] using this
theorem mem_sortZ (l : List Int) (x : Int) : x ∈ sortZ l ↔ x ∈ l := (List.mergeSort_perm l _).mem_iff

/-- The least number of a list, from a first one on. -/
def leastZ (a : Int) (l : List Int) : Int := l.foldl min a
theorem leastZ_le (l : List Int) : ∀ a, leastZ a l ≤ a ∧ ∀ x ∈ l, leastZ a l ≤ x := by
  induction l with
  | nil => intro a; simp [leastZ]
  | cons b l ih =>
    intro a
    obtain ⟨h1, h2⟩ := ih (min a b)
    have e : leastZ a (b :: l) = leastZ (min a b) l := rfl
    rw [e]
    refine ⟨by omega, fun x hx => ?_⟩
    rcases List.mem_cons.1 hx with rfl | hx
    · omega
    · exact h2 x hx
theorem leastZ_mem (l : List Int) : ∀ a, leastZ a l = a ∨ leastZ a l ∈ l := by
  induction l with
  | nil => intro a; simp [leastZ]
  | cons b l ih =>
    intro a
    have e : leastZ a (b :: l) = leastZ (min a b) l := rfl
    rw [e]
    rcases ih (min a b) with h | h
    · rcases Int.le_total a b with hab | hab
      · left; omega
      · right; rw [h, show min a b = b by omega]; simp
    · right; simp [h]

/-- What is taken out, least first. -/
def takeZ : Nat → List Int → List Int
  | 0, _ => []
  | _ + 1, [] => []
  | k + 1, a :: l => leastZ a (a :: l) :: takeZ k ((a :: l).filter fun x => x != leastZ a (a :: l))

theorem takeZ_spec : ∀ k l, l.length ≤ k → (takeZ k l).Pairwise (· < ·) ∧ ∀ x, x ∈ takeZ k l ↔ x ∈ l := by
  intro k
  induction k with
  | zero => intro l h; obtain rfl : l = [] := List.length_eq_zero_iff.1 (by omega); simp [takeZ]
  | succ k ih =>
    intro l h
    match l with
    | [] => simp [takeZ]
    | a :: l =>
      have hm : leastZ a (a :: l) ∈ a :: l := by
        rcases leastZ_mem (a :: l) a with e | e
        · rw [e]; simp
        · exact e
      have hle := (leastZ_le (a :: l) a).2
      generalize hL : leastZ a (a :: l) = L at *
      have hlen : ((a :: l).filter fun x => x != L).length ≤ k := by
        have : ((a :: l).filter fun x => x != L).length < (a :: l).length := by
          rw [List.length_filter_lt_length_iff_exists]
          exact ⟨L, hm, by simp⟩
        omega
      obtain ⟨h1, h2⟩ := ih _ hlen
      have e : takeZ (k + 1) (a :: l) = L :: takeZ k ((a :: l).filter fun x => x != L) := by simp only [takeZ, hL]
      rw [e]
      refine ⟨List.pairwise_cons.2 ⟨fun x hx => ?_, h1⟩, fun x => ?_⟩
      · have hx := (h2 x).1 hx
        rw [List.mem_filter] at hx
        have := hle x hx.1
        have : x ≠ L := by simpa using hx.2
        omega
      · rw [List.mem_cons, h2, List.mem_filter]
        constructor
        · rintro (rfl | h)
          · exact hm
          · exact h.1
        · intro hx
          by_cases hxL : x = L
          · exact .inl hxL
          · exact .inr ⟨hx, by simpa using hxL⟩

theorem take_compact (l m : List Int) (h : ∀ x, x ∈ l ↔ x ∈ m) : takeZ l.length l = Lib.compact (sortZ m) := by
  obtain ⟨a1, a2⟩ := takeZ_spec l.length l (Nat.le_refl _)
  obtain ⟨b1, b2⟩ := compact_sorted (sortZ m) (sortZ_asc m)
  exact asc_ext a1 b1 fun x => by rw [a2, b2, mem_sortZ, h]
end Go.Ab
end
section
set_option linter.unusedVariables false
set_option linter.unusedSimpArgs false
namespace Go.Proofs
open Go Go.Ab
set_option maxHeartbeats 4000000
set_option linter.unusedSimpArgs false
set_option linter.unusedVariables false
structure Ts where
  method : Int
  pass : Bool
def Ts.av (x : Ts) : AV := .agg [.v (.int .i64 x.method), .v (.bool x.pass)]
attribute [go_sem] Ts.av
structure Base (w : Wd) (k : Int) : Prop where
  id : idB w.seam = true
  c1 : 1 ≤ w.cls
  c3 : w.cls ≤ 3
  kind : k = 1 ∨ k = 2
structure Made (w : Wd) (k : Int) : Prop where
  p : nameB w.proc = true
  b : nameB w.by_ = true
  a0 : 0 ≤ w.at_
  a1 : w.at_ ≤ 1048576
  r0 : 0 ≤ w.repairs
  r2 : w.repairs ≤ 2
  asc : ascB w.passed = true
  sub : allIn (methods k w.cls) w.passed = true
  s4 : w.state = 4 ↔ allIn w.passed (methods k w.cls) = true
  s3 : w.state = 3 → w.repairs < 2
  s5 : w.state = 5 → w.repairs = 2
theorem check_base {w : Wd} {k : Int} (h : checkE w k = 0) : Base w k ∧ 1 ≤ w.state ∧ w.state ≤ 5 := by
  unfold checkE at h
  repeat' split at h
  all_goals first | (exfalso; omega) | skip
  all_goals simp_all
  all_goals first | (refine ⟨⟨by assumption, by omega, by omega, by omega⟩, by omega⟩) | (refine ⟨by assumption, by omega, by omega, by omega⟩)
theorem made_iff {w : Wd} {k : Int} : madeE w k = 0 ↔ Made w k := by
  constructor
  · intro h
    unfold madeE stB at h
    repeat' split at h
    all_goals first | (exfalso; omega) | skip
    all_goals simp_all
    rename_i h1 h2 h3 h4 h5 h6
    obtain ⟨⟨h6, h7⟩, h8⟩ := h6
    refine ⟨h1.1, h1.2, by omega, by omega, by omega, by omega, h4, h5, ?_, fun e => by have := h7 e; omega, fun e => by have := h8 e; omega⟩
    constructor
    · intro e; simpa [e] using h6
    · intro e; simpa [e] using h6
  · intro ⟨h1, h2, h3, h4, h5, h6, h7, h8, h9, h10, h11⟩
    have e9 : (w.state == 4) = allIn w.passed (methods k w.cls) := by
      cases h : allIn w.passed (methods k w.cls)
      · rw [beq_eq_false_iff_ne]; intro e; rw [h9.1 e] at h; cases h
      · rw [beq_iff_eq]; exact h9.2 h
    have e10 : (w.state == 3 && decide (2 ≤ w.repairs)) = false := by
      by_cases e : w.state = 3
      · have := h10 e; simp; omega
      · simp [e]
    have e11 : (w.state == 5 && w.repairs != 2) = false := by
      by_cases e : w.state = 5
      · simp [h11 e]
      · simp [e]
    unfold madeE stB
    simp only [h1, h2, h3, h4, h5, h6, h7, h8, e9, e10, e11]
    simp
theorem check_made {w : Wd} {k : Int} (hs : w.state ≠ 1) : checkE w k = 0 ↔ Base w k ∧ (1 ≤ w.state ∧ w.state ≤ 5) ∧ Made w k := by
  constructor
  · intro h
    obtain ⟨hb, h1, h2⟩ := check_base h
    refine ⟨hb, ⟨h1, h2⟩, made_iff.1 ?_⟩
    unfold checkE at h
    have e : (w.state != 1) = true := by simp [hs]
    have h3 := hb.c1
    have h4 := hb.c3
    have h5 := hb.kind
    rw [if_neg (by simp [hb.id]), if_neg (by simp; omega), if_neg (by simp; omega), if_neg (by simp; omega), if_pos e] at h
    exact h
  · intro ⟨hb, ⟨h1, h2⟩, hm⟩
    unfold checkE
    have e : (w.state != 1) = true := by simp [hs]
    have h3 := hb.c1
    have h4 := hb.c3
    have h5 := hb.kind
    rw [if_neg (by simp [hb.id]), if_neg (by simp; omega), if_neg (by simp; omega), if_neg (by simp; omega), if_pos e]
    exact made_iff.2 hm
theorem one_in {w : Wd} {k : Int} (h : Base w k) : 1 ∈ methods k w.cls := by
  have h1 := h.c1
  have h2 := h.c3
  have h3 : w.cls = 1 ∨ w.cls = 2 ∨ w.cls = 3 := by omega
  rcases h.kind with e | e <;> rcases h3 with e' | e' | e' <;> rw [e, e'] <;> decide
theorem all_nil {w : Wd} {k : Int} (h : Base w k) : allIn [] (methods k w.cls) = false := by
  rw [Bool.eq_false_iff]
  intro e
  have := List.all_eq_true.1 e 1 (one_in h)
  simp at this
theorem made_new {w : Wd} {k : Int} {p b : ByteArray} {a r : Int} (hb : Base w k) (hp : nameB p = true) (hbb : nameB b = true) (h0 : 0 ≤ a) (h1 : a ≤ 1048576) (r0 : 0 ≤ r) (r2 : r ≤ 2) : checkE (w.made p b a r) k = 0 := by
  rw [check_made (by simp [Wd.made])]
  refine ⟨⟨hb.id, hb.c1, hb.c3, hb.kind⟩, ⟨by simp [Wd.made], by simp [Wd.made]⟩, hp, hbb, h0, h1, r0, r2, rfl, rfl, ?_, by simp [Wd.made], by simp [Wd.made]⟩
  have e := all_nil hb
  simp only [Wd.made, e]
  simp
theorem start_keeps {w : Wd} {k a : Int} {p b : ByteArray} (h : checkE w k = 0) (hs : (startE w p b a).2 = 0) : w.state = 1 ∧ checkE (startE w p b a).1 k = 0 ∧ (startE w p b a).1.seam = w.seam ∧ (startE w p b a).1.cls = w.cls := by
  obtain ⟨hb, _⟩ := check_base h
  unfold startE at hs ⊢
  repeat' split at hs
  all_goals first | (exfalso; revert hs; simp; done) | skip
  rename_i h1 h2 h3
  rw [if_neg h1, if_neg h2, if_neg h3]
  simp at h1 h2 h3
  exact ⟨h1, made_new hb h2.1 h2.2 (by omega) (by omega) (by omega) (by omega), rfl, rfl⟩
theorem repair_keeps {w : Wd} {k a : Int} {p b : ByteArray} (h : checkE w k = 0) (hs : (repairE w p b a).2 = 0) : w.state = 3 ∧ checkE (repairE w p b a).1 k = 0 ∧ (repairE w p b a).1.seam = w.seam ∧ (repairE w p b a).1.cls = w.cls := by
  obtain ⟨hb, _⟩ := check_base h
  unfold repairE at hs ⊢
  repeat' split at hs
  all_goals first | (exfalso; revert hs; simp; done) | skip
  rename_i h1 h2 h3
  rw [if_neg h1, if_neg h2, if_neg h3]
  simp at h1 h2 h3
  obtain ⟨_, _, hm⟩ := (check_made (by omega)).1 h
  have := hm.s3 h1
  have := hm.r0
  have e : IntKind.i64.wrap (w.repairs + 1) = w.repairs + 1 := wrap_i64 (by omega) (by omega)
  refine ⟨h1, made_new hb h2.1 h2.2 (by omega) (by omega) (by rw [e]; omega) (by rw [e]; omega), rfl, rfl⟩
theorem asc_of_pw {l : List Int} (h : l.Pairwise (· < ·)) : ascB l = true := by
  simp only [ascB, List.all_eq_true, List.mem_range, decide_eq_true_eq]
  intro i hi
  have := List.pairwise_iff_getElem.1 h i (i + 1) (by omega) (by omega) (by omega)
  simpa [List.getD_eq_getElem?_getD, show i < l.length by omega, show i + 1 < l.length by omega] using this
theorem newP_spec (w : Wd) (m : Int) : (newP w m).Pairwise (· < ·) ∧ ∀ x, x ∈ newP w m ↔ x ∈ w.passed ∨ x = m := by
  have h := compact_sorted (sortZ (w.passed ++ [m])) (sortZ_asc _)
  refine ⟨h.1, fun x => ?_⟩
  show x ∈ Lib.compact (sortZ (w.passed ++ [m])) ↔ _
  rw [h.2, mem_sortZ]
  simp
theorem inspect_keeps {w : Wd} {k m : Int} {pass : Bool} (h : checkE w k = 0) (hs : (inspectE w k m pass).2 = 0) :
    w.state = 2 ∧ checkE (inspectE w k m pass).1 k = 0 ∧ (inspectE w k m pass).1.seam = w.seam ∧ (inspectE w k m pass).1.cls = w.cls := by
  obtain ⟨hb, _⟩ := check_base h
  by_cases h1 : (w.state != 2) = true
  · unfold inspectE at hs; rw [if_pos h1] at hs; simp at hs
  by_cases h2 : (!(methods k w.cls).contains m || w.passed.contains m) = true
  · unfold inspectE at hs; rw [if_neg h1, if_pos h2] at hs; simp at hs
  have e2 : w.state = 2 := by simpa using h1
  obtain ⟨_, _, hm⟩ := (check_made (by omega)).1 h
  have hmm : m ∈ methods k w.cls := by simp at h2; exact h2.1
  have hnot : allIn w.passed (methods k w.cls) = false := by
    rw [Bool.eq_false_iff]; intro e; have := hm.s4.2 e; omega
  cases pass
  · have e : inspectE w k m false = (⟨w.seam, if decide (w.repairs < 2) then 3 else 5, w.cls, w.proc, w.by_, w.at_, w.repairs, w.passed⟩, 0) := by
      unfold inspectE; rw [if_neg h1, if_neg h2, if_pos (by decide)]
    rw [e]
    refine ⟨e2, ?_, rfl, rfl⟩
    have hr := hm.r2
    rw [check_made (by dsimp only; split <;> omega)]
    refine ⟨⟨hb.id, hb.c1, hb.c3, hb.kind⟩, ?_, hm.p, hm.b, hm.a0, hm.a1, hm.r0, hm.r2, hm.asc, hm.sub, ?_, ?_, ?_⟩
    · dsimp only; split <;> omega
    · dsimp only; rw [hnot]; split <;> simp
    · dsimp only; split <;> simp_all
    · dsimp only
      intro e
      split at e
      · omega
      · rename_i h3; simp at h3; omega
  · have e : inspectE w k m true = (⟨w.seam, if allIn (newP w m) (methods k w.cls) then 4 else w.state, w.cls, w.proc, w.by_, w.at_, w.repairs, newP w m⟩, 0) := by
      unfold inspectE; rw [if_neg h1, if_neg h2, if_neg (by decide)]
    rw [e]
    refine ⟨e2, ?_, rfl, rfl⟩
    obtain ⟨n1, n2⟩ := newP_spec w m
    rw [check_made (by dsimp only; split <;> omega)]
    refine ⟨⟨hb.id, hb.c1, hb.c3, hb.kind⟩, ?_, hm.p, hm.b, hm.a0, hm.a1, hm.r0, hm.r2, asc_of_pw n1, ?_, ?_, ?_, ?_⟩
    · dsimp only; split <;> omega
    · simp only [allIn, List.all_eq_true]
      intro x hx
      rcases (n2 x).1 hx with h4 | h4
      · exact List.all_eq_true.1 hm.sub x h4
      · rw [h4]; simpa using hmm
    · dsimp only
      split
      · rename_i h3; simp [h3]
      · rename_i h3; simp [h3, e2]
    · dsimp only; split <;> simp_all
    · dsimp only; split <;> simp_all
theorem start_no {w : Wd} {p b : ByteArray} {a : Int} (h : (startE w p b a).2 ≠ 0) : (startE w p b a).1 = zeroW := by
  unfold startE at h ⊢
  repeat' split
  all_goals first | rfl | simp_all
theorem repair_no {w : Wd} {p b : ByteArray} {a : Int} (h : (repairE w p b a).2 ≠ 0) : (repairE w p b a).1 = zeroW := by
  unfold repairE at h ⊢
  repeat' split
  all_goals first | rfl | (simp_all; done) | (simp_all; exfalso; apply h; rw [if_neg (by omega)])
theorem inspect_no {w : Wd} {k m : Int} {pass : Bool} (h : (inspectE w k m pass).2 ≠ 0) : (inspectE w k m pass).1 = zeroW := by
  unfold inspectE at h ⊢
  repeat' split
  all_goals first | rfl | simp_all
end Go.Proofs
end
section
set_option linter.unusedVariables false
set_option linter.unusedSimpArgs false
namespace Go.Proofs
open Go Go.Ab
set_option maxRecDepth 100000
def Tryd.ac6 : ACode := ((ACode.region false [{ dst := some 3, op := .box 8 (.t 0), guard := none, deps := [] }, { dst := some 5, op := .box 2 (.t 2), guard := none, deps := [] }, { dst := some 6, op := .mv (.c (.bool false)), guard := none, deps := [] }]).seq (((ACode.region false [{ dst := some 11, op := .load 8 true (.t 3), guard := none, deps := [] }, { dst := some 12, op := .call 9 [.t 11], guard := none, deps := [] }]).seq (ACode.cond (.t 12) ((ACode.region false [{ dst := some 13, op := .call 10 [], guard := none, deps := [] }, { dst := some 6, op := .mv (.t 13), guard := none, deps := [] }]).seq ACode.ret) ACode.skip)).seq ((ACode.region false [{ dst := some 15, op := .load 8 true (.t 3), guard := none, deps := [] }, { dst := some 16, op := .mv (.t 1), guard := none, deps := [] }, { dst := some 17, op := .fieldAddr 0 (.t 5), guard := none, deps := [] }, { dst := some 18, op := .load 1 false (.t 17), guard := none, deps := [] }, { dst := some 19, op := .fieldAddr 1 (.t 5), guard := none, deps := [] }, { dst := some 20, op := .load 1 false (.t 19), guard := none, deps := [] }, { dst := some 21, op := .call 22 [.t 15, .t 16, .t 18, .t 20], guard := none, deps := [] }, { dst := some 14, op := .mv (.t 21), guard := none, deps := [] }, { dst := some 22, op := .extract (.t 14) 0, guard := none, deps := [] }, { dst := some 23, op := .extract (.t 14) 1, guard := none, deps := [] }, { dst := some 7, op := .alloc [.string ⟨⟨[]⟩⟩, .int .i64 (0), .int .i64 (0), .string ⟨⟨[]⟩⟩, .string ⟨⟨[]⟩⟩, .int .i64 (0), .int .i64 (0), .slice none 0 0], guard := none, deps := [] }, { dst := none, op := .store 8 (.t 7) (.t 22), guard := none, deps := [] }, { dst := some 8, op := .mv (.t 23), guard := none, deps := [] }]).seq ((ACode.region false [{ dst := some 25, op := .load 8 true (.t 3), guard := none, deps := [] }, { dst := some 26, op := .mv (.t 1), guard := none, deps := [] }, { dst := some 27, op := .fieldAddr 0 (.t 5), guard := none, deps := [] }, { dst := some 28, op := .load 1 false (.t 27), guard := none, deps := [] }, { dst := some 29, op := .fieldAddr 1 (.t 5), guard := none, deps := [] }, { dst := some 30, op := .load 1 false (.t 29), guard := none, deps := [] }, { dst := some 31, op := .call 23 [.t 25, .t 26, .t 28, .t 30], guard := none, deps := [] }, { dst := some 24, op := .mv (.t 31), guard := none, deps := [] }, { dst := some 32, op := .extract (.t 24) 0, guard := none, deps := [] }, { dst := some 33, op := .extract (.t 24) 1, guard := none, deps := [] }, { dst := some 9, op := .alloc [.string ⟨⟨[]⟩⟩, .int .i64 (0), .int .i64 (0), .string ⟨⟨[]⟩⟩, .string ⟨⟨[]⟩⟩, .int .i64 (0), .int .i64 (0), .slice none 0 0], guard := none, deps := [] }, { dst := none, op := .store 8 (.t 9) (.t 32), guard := none, deps := [] }, { dst := some 10, op := .mv (.t 33), guard := none, deps := [] }]).seq ((ACode.region false [{ dst := some 34, op := .load 8 true (.t 7), guard := none, deps := [] }, { dst := some 35, op := .load 8 true (.t 9), guard := none, deps := [] }, { dst := some 36, op := .call 12 [.t 34, .t 35], guard := none, deps := [] }, { dst := some 37, op := .mv (.t 36), guard := none, deps := [] }, { dst := some 38, op := .mv (.t 8), guard := some (37, true), deps := [] }, { dst := some 39, op := .mv (.t 10), guard := some (37, true), deps := [] }, { dst := some 40, op := .bin .eql (.t 38) (.t 39), guard := some (37, true), deps := [] }, { dst := some 41, op := .pick (.t 37) (.t 40) (.c (.bool false)), guard := none, deps := [] }, { dst := some 42, op := .mv (.t 41), guard := none, deps := [] }, { dst := some 43, op := .call 10 [], guard := some (42, true), deps := [] }, { dst := some 44, op := .pick (.t 42) (.t 43) (.c (.bool false)), guard := none, deps := [] }, { dst := some 6, op := .mv (.t 44), guard := none, deps := [] }]).seq ACode.ret)))))
theorem Tryd.F6 : FnFacts Tryd.prog 6 Tryd.f6 Tryd.ac6 45 [.tmp 6] := ⟨Tryd.func6, by kernel_rfl, by kernel_rfl, by kernel_rfl, by kernel_rfl, by kernel_rfl, by kernel_rfl, by kernel_rfl⟩
def Tryd.ac7 : ACode := ((ACode.region false [{ dst := some 2, op := .box 6 (.t 0), guard := none, deps := [] }, { dst := some 4, op := .mv (.c (.bool false)), guard := none, deps := [] }]).seq ((ACode.region false [{ dst := some 13, op := .load 6 true (.t 2), guard := none, deps := [] }, { dst := some 14, op := .call 11 [.t 13], guard := none, deps := [] }, { dst := some 5, op := .alloc [.string ⟨⟨[]⟩⟩, .int .i64 (0), .int .i64 (0), .string ⟨⟨[]⟩⟩, .string ⟨⟨[]⟩⟩, .int .i64 (0), .int .i64 (0), .slice none 0 0], guard := none, deps := [] }, { dst := none, op := .store 8 (.t 5) (.t 14), guard := none, deps := [] }]).seq (((ACode.region false [{ dst := some 15, op := .fieldAddr 0 (.t 2), guard := none, deps := [] }, { dst := some 16, op := .load 1 false (.t 15), guard := none, deps := [] }, { dst := some 17, op := .lenStr (.t 16), guard := none, deps := [] }, { dst := some 18, op := .bin .gtr (.t 17) (.c (.int .i64 (200))), guard := none, deps := [] }, { dst := some 19, op := .mv (.t 18), guard := none, deps := [] }, { dst := some 20, op := .mv (.t 1), guard := some (19, false), deps := [] }, { dst := some 21, op := .len (.t 20), guard := some (19, false), deps := [] }, { dst := some 22, op := .bin .gtr (.t 21) (.c (.int .i64 (60))), guard := some (19, false), deps := [] }, { dst := some 23, op := .pick (.t 19) (.c (.bool true)) (.t 22), guard := none, deps := [] }, { dst := some 24, op := .mv (.t 23), guard := none, deps := [] }, { dst := some 25, op := .load 8 true (.t 5), guard := some (24, false), deps := [] }, { dst := some 26, op := .fieldAddr 3 (.t 2), guard := some (24, false), deps := [] }, { dst := some 27, op := .load 1 false (.t 26), guard := some (24, false), deps := [] }, { dst := some 28, op := .call 14 [.t 25, .t 27], guard := some (24, false), deps := [] }, { dst := some 29, op := .bin .neq (.t 28) (.c (.int .i64 (0))), guard := some (24, false), deps := [] }, { dst := some 30, op := .pick (.t 24) (.c (.bool true)) (.t 29), guard := none, deps := [] }]).seq (ACode.cond (.t 30) ((ACode.region false [{ dst := some 31, op := .call 10 [], guard := none, deps := [] }, { dst := some 4, op := .mv (.t 31), guard := none, deps := [] }]).seq ACode.ret) ACode.skip)).seq ((ACode.region false [{ dst := some 6, op := .alloc [.bool false, .bool false, .bool false, .bool false, .bool false, .bool false], guard := none, deps := [] }]).seq ((ACode.region false [{ dst := some 7, op := .mv (.c (.bool false)), guard := none, deps := [] }, { dst := some 8, op := .mv (.c (.int .i64 (0))), guard := none, deps := [] }]).seq (((ACode.region false [{ dst := some 9, op := .mv (.c (.int .i64 (0))), guard := none, deps := [] }]).seq (ACode.block 0 (((ACode.region false [{ dst := some 32, op := .mv (.t 9), guard := none, deps := [] }, { dst := some 33, op := .mv (.t 1), guard := none, deps := [] }, { dst := some 34, op := .len (.t 33), guard := none, deps := [] }, { dst := some 35, op := .bin .lss (.t 32) (.t 34), guard := none, deps := [] }]).seq (ACode.cond (.t 35) ACode.skip (ACode.exit 0))).seq ((ACode.block 1 ((ACode.region false [{ dst := some 38, op := .fieldAddr 1 (.t 5), guard := none, deps := [] }, { dst := some 39, op := .load 1 false (.t 38), guard := none, deps := [] }, { dst := some 10, op := .mv (.t 39), guard := none, deps := [] }]).seq ((ACode.region true [{ dst := some 41, op := .load 8 true (.t 5), guard := none, deps := [] }, { dst := some 42, op := .fieldAddr 3 (.t 2), guard := none, deps := [] }, { dst := some 43, op := .load 1 false (.t 42), guard := none, deps := [1] }, { dst := some 44, op := .mv (.t 9), guard := none, deps := [] }, { dst := some 45, op := .mv (.t 1), guard := none, deps := [] }, { dst := some 46, op := .mv (.t 9), guard := none, deps := [] }, { dst := some 47, op := .idxAddr 2 (.t 45) (.t 46), guard := none, deps := [4, 5] }, { dst := some 48, op := .load 2 true (.t 47), guard := none, deps := [6] }, { dst := some 49, op := .call 24 [.t 41, .t 43, .t 44, .t 48], guard := none, deps := [0, 2, 3, 7] }, { dst := some 40, op := .mv (.t 49), guard := none, deps := [8] }, { dst := some 50, op := .extract (.t 40) 0, guard := none, deps := [9] }, { dst := some 51, op := .extract (.t 40) 1, guard := none, deps := [9] }, { dst := some 11, op := .alloc [.string ⟨⟨[]⟩⟩, .int .i64 (0), .int .i64 (0), .string ⟨⟨[]⟩⟩, .string ⟨⟨[]⟩⟩, .int .i64 (0), .int .i64 (0), .slice none 0 0], guard := none, deps := [] }, { dst := none, op := .store 8 (.t 11) (.t 50), guard := none, deps := [12, 10, 8, 0, 1, 2, 3, 4, 5, 6, 7, 8, 9, 10, 12] }, { dst := some 12, op := .mv (.t 51), guard := none, deps := [11, 13, 0, 1, 2, 3, 4, 5, 6, 7, 8, 9, 10, 11, 12, 13] }]).seq (((ACode.region false [{ dst := some 52, op := .mv (.t 10), guard := none, deps := [] }, { dst := some 53, op := .bin .eql (.t 52) (.c (.int .i64 (1))), guard := none, deps := [] }, { dst := some 54, op := .mv (.t 53), guard := none, deps := [] }, { dst := some 55, op := .mv (.t 10), guard := some (54, false), deps := [] }, { dst := some 56, op := .bin .eql (.t 55) (.c (.int .i64 (3))), guard := some (54, false), deps := [] }, { dst := some 57, op := .pick (.t 54) (.c (.bool true)) (.t 56), guard := none, deps := [] }, { dst := some 58, op := .mv (.t 57), guard := none, deps := [] }, { dst := some 59, op := .mv (.t 12), guard := some (58, true), deps := [] }, { dst := some 60, op := .un .not (.t 59), guard := some (58, true), deps := [] }, { dst := some 61, op := .pick (.t 58) (.t 60) (.c (.bool false)), guard := none, deps := [] }, { dst := some 62, op := .mv (.t 61), guard := none, deps := [] }, { dst := some 63, op := .mv (.t 12), guard := some (62, false), deps := [] }, { dst := some 64, op := .mv (.t 63), guard := some (62, false), deps := [] }, { dst := some 65, op := .mv (.t 10), guard := some (64, true), deps := [] }, { dst := some 66, op := .bin .eql (.t 65) (.c (.int .i64 (4))), guard := some (64, true), deps := [] }, { dst := some 67, op := .mv (.t 66), guard := some (64, true), deps := [] }, { dst := some 68, op := .mv (.t 10), guard := some (67, false), deps := [] }, { dst := some 69, op := .bin .eql (.t 68) (.c (.int .i64 (5))), guard := some (67, false), deps := [] }, { dst := some 70, op := .pick (.t 67) (.c (.bool true)) (.t 69), guard := some (64, true), deps := [] }, { dst := some 71, op := .pick (.t 64) (.t 70) (.c (.bool false)), guard := some (62, false), deps := [] }, { dst := some 72, op := .pick (.t 62) (.c (.bool true)) (.t 71), guard := none, deps := [] }]).seq (ACode.cond (.t 72) ((ACode.region false [{ dst := some 4, op := .mv (.c (.bool false)), guard := none, deps := [] }]).seq ACode.ret) ACode.skip)).seq (((ACode.region false [{ dst := some 73, op := .mv (.t 12), guard := none, deps := [] }, { dst := some 74, op := .un .not (.t 73), guard := none, deps := [] }]).seq (ACode.cond (.t 74) (ACode.exit 1) ACode.skip)).seq (((ACode.region false [{ dst := some 75, op := .mv (.t 10), guard := none, deps := [] }, { dst := some 76, op := .bin .eql (.t 75) (.c (.int .i64 (3))), guard := none, deps := [] }]).seq (ACode.cond (.t 76) (ACode.region false [{ dst := some 77, op := .mv (.t 8), guard := none, deps := [] }, { dst := some 78, op := .bin .add (.t 77) (.c (.int .i64 (1))), guard := none, deps := [] }, { dst := some 8, op := .mv (.t 78), guard := none, deps := [] }]) ACode.skip)).seq (((ACode.region false [{ dst := some 79, op := .mv (.t 10), guard := none, deps := [] }, { dst := some 80, op := .bin .eql (.t 79) (.c (.int .i64 (1))), guard := none, deps := [] }, { dst := some 81, op := .mv (.t 80), guard := none, deps := [] }, { dst := some 82, op := .mv (.t 10), guard := some (81, false), deps := [] }, { dst := some 83, op := .bin .eql (.t 82) (.c (.int .i64 (3))), guard := some (81, false), deps := [] }, { dst := some 84, op := .pick (.t 81) (.c (.bool true)) (.t 83), guard := none, deps := [] }]).seq (ACode.cond (.t 84) ((ACode.region false [{ dst := some 85, op := .build [.bool false, .bool false, .bool false, .bool false, .bool false, .bool false] [], guard := none, deps := [] }, { dst := none, op := .store 6 (.t 6) (.t 85), guard := none, deps := [] }]).seq (ACode.region false [{ dst := some 7, op := .mv (.c (.bool false)), guard := none, deps := [] }])) ((ACode.region false [{ dst := some 86, op := .mv (.t 1), guard := none, deps := [] }, { dst := some 87, op := .mv (.t 9), guard := none, deps := [] }, { dst := some 88, op := .idxAddr 2 (.t 86) (.t 87), guard := none, deps := [] }, { dst := some 89, op := .fieldAddr 0 (.t 88), guard := none, deps := [] }, { dst := some 90, op := .load 1 false (.t 89), guard := none, deps := [] }, { dst := some 91, op := .bin .lss (.t 90) (.c (.int .i64 (1))), guard := none, deps := [] }, { dst := some 92, op := .mv (.t 91), guard := none, deps := [] }, { dst := some 93, op := .mv (.t 1), guard := some (92, false), deps := [] }, { dst := some 94, op := .mv (.t 9), guard := some (92, false), deps := [] }, { dst := some 95, op := .idxAddr 2 (.t 93) (.t 94), guard := some (92, false), deps := [] }, { dst := some 96, op := .fieldAddr 0 (.t 95), guard := some (92, false), deps := [] }, { dst := some 97, op := .load 1 false (.t 96), guard := some (92, false), deps := [] }, { dst := some 98, op := .bin .gtr (.t 97) (.c (.int .i64 (5))), guard := some (92, false), deps := [] }, { dst := some 99, op := .pick (.t 92) (.c (.bool true)) (.t 98), guard := none, deps := [] }, { dst := some 100, op := .mv (.t 99), guard := none, deps := [] }, { dst := some 101, op := .mv (.t 1), guard := some (100, false), deps := [] }, { dst := some 102, op := .mv (.t 9), guard := some (100, false), deps := [] }, { dst := some 103, op := .idxAddr 2 (.t 101) (.t 102), guard := some (100, false), deps := [] }, { dst := some 104, op := .fieldAddr 0 (.t 103), guard := some (100, false), deps := [] }, { dst := some 105, op := .load 1 false (.t 104), guard := some (100, false), deps := [] }, { dst := some 106, op := .idxPtr 6 1 (.t 6) (.t 105), guard := some (100, false), deps := [] }, { dst := some 107, op := .load 1 false (.t 106), guard := some (100, false), deps := [] }, { dst := some 108, op := .pick (.t 100) (.c (.bool true)) (.t 107), guard := none, deps := [] }]).seq (ACode.cond (.t 108) ((ACode.region false [{ dst := some 4, op := .mv (.c (.bool false)), guard := none, deps := [] }]).seq ACode.ret) ((ACode.region false [{ dst := some 109, op := .mv (.t 1), guard := none, deps := [] }, { dst := some 110, op := .mv (.t 9), guard := none, deps := [] }, { dst := some 111, op := .idxAddr 2 (.t 109) (.t 110), guard := none, deps := [] }, { dst := some 112, op := .fieldAddr 1 (.t 111), guard := none, deps := [] }, { dst := some 113, op := .load 1 false (.t 112), guard := none, deps := [] }]).seq (ACode.cond (.t 113) (ACode.region false [{ dst := some 114, op := .mv (.t 1), guard := none, deps := [] }, { dst := some 115, op := .mv (.t 9), guard := none, deps := [] }, { dst := some 116, op := .idxAddr 2 (.t 114) (.t 115), guard := none, deps := [] }, { dst := some 117, op := .fieldAddr 0 (.t 116), guard := none, deps := [] }, { dst := some 118, op := .load 1 false (.t 117), guard := none, deps := [] }, { dst := some 119, op := .idxPtr 6 1 (.t 6) (.t 118), guard := none, deps := [] }, { dst := none, op := .store 1 (.t 119) (.c (.bool true)), guard := none, deps := [] }]) (ACode.region false [{ dst := some 7, op := .mv (.c (.bool true)), guard := none, deps := [] }]))))))).seq ((ACode.region false [{ dst := some 120, op := .load 8 true (.t 11), guard := none, deps := [] }, { dst := none, op := .store 8 (.t 5) (.t 120), guard := none, deps := [] }]).seq ((ACode.region false [{ dst := some 121, op := .load 8 true (.t 5), guard := none, deps := [] }, { dst := some 122, op := .fieldAddr 3 (.t 2), guard := none, deps := [] }, { dst := some 123, op := .load 1 false (.t 122), guard := none, deps := [] }, { dst := some 124, op := .call 14 [.t 121, .t 123], guard := none, deps := [] }, { dst := some 125, op := .bin .neq (.t 124) (.c (.int .i64 (0))), guard := none, deps := [] }, { dst := some 126, op := .mv (.t 125), guard := none, deps := [] }, { dst := some 127, op := .load 8 true (.t 5), guard := some (126, false), deps := [] }, { dst := some 128, op := .call 16 [.t 127], guard := some (126, false), deps := [] }, { dst := some 129, op := .mv (.t 7), guard := some (126, false), deps := [] }, { dst := some 130, op := .un .not (.t 129), guard := some (126, false), deps := [] }, { dst := some 131, op := .mv (.t 130), guard := some (126, false), deps := [] }, { dst := some 132, op := .load 6 true (.t 6), guard := some (131, true), deps := [] }, { dst := some 133, op := .load 6 true (.t 2), guard := some (131, true), deps := [] }, { dst := some 134, op := .call 25 [.t 132, .t 133], guard := some (131, true), deps := [] }, { dst := some 135, op := .pick (.t 131) (.t 134) (.c (.bool false)), guard := some (126, false), deps := [] }, { dst := some 136, op := .eqB true (.t 128) (.t 135), guard := some (126, false), deps := [] }, { dst := some 137, op := .pick (.t 126) (.c (.bool true)) (.t 136), guard := none, deps := [] }, { dst := some 138, op := .mv (.t 137), guard := none, deps := [] }, { dst := some 139, op := .fieldAddr 6 (.t 5), guard := some (138, false), deps := [] }, { dst := some 140, op := .load 1 false (.t 139), guard := some (138, false), deps := [] }, { dst := some 141, op := .mv (.t 8), guard := some (138, false), deps := [] }, { dst := some 142, op := .bin .neq (.t 140) (.t 141), guard := some (138, false), deps := [] }, { dst := some 143, op := .pick (.t 138) (.c (.bool true)) (.t 142), guard := none, deps := [] }, { dst := some 144, op := .mv (.t 143), guard := none, deps := [] }, { dst := some 145, op := .mv (.t 8), guard := some (144, false), deps := [] }, { dst := some 146, op := .bin .gtr (.t 145) (.c (.int .i64 (2))), guard := some (144, false), deps := [] }, { dst := some 147, op := .pick (.t 144) (.c (.bool true)) (.t 146), guard := none, deps := [] }, { dst := some 148, op := .mv (.t 147), guard := none, deps := [] }, { dst := some 149, op := .mv (.t 7), guard := some (148, false), deps := [] }, { dst := some 150, op := .fieldAddr 1 (.t 5), guard := some (148, false), deps := [] }, { dst := some 151, op := .load 1 false (.t 150), guard := some (148, false), deps := [] }, { dst := some 152, op := .bin .eql (.t 151) (.c (.int .i64 (3))), guard := some (148, false), deps := [] }, { dst := some 153, op := .mv (.t 152), guard := some (148, false), deps := [] }, { dst := some 154, op := .fieldAddr 1 (.t 5), guard := some (153, false), deps := [] }, { dst := some 155, op := .load 1 false (.t 154), guard := some (153, false), deps := [] }, { dst := some 156, op := .bin .eql (.t 155) (.c (.int .i64 (5))), guard := some (153, false), deps := [] }, { dst := some 157, op := .pick (.t 153) (.c (.bool true)) (.t 156), guard := some (148, false), deps := [] }, { dst := some 158, op := .eqB true (.t 149) (.t 157), guard := some (148, false), deps := [] }, { dst := some 159, op := .pick (.t 148) (.c (.bool true)) (.t 158), guard := none, deps := [] }]).seq (ACode.cond (.t 159) ((ACode.region false [{ dst := some 4, op := .mv (.c (.bool false)), guard := none, deps := [] }]).seq ACode.ret) ACode.skip)))))))))).seq (ACode.region false [{ dst := some 36, op := .mv (.t 9), guard := none, deps := [] }, { dst := some 37, op := .bin .add (.t 36) (.c (.int .i64 (1))), guard := none, deps := [] }, { dst := some 9, op := .mv (.t 37), guard := none, deps := [] }]))).loop)).seq ((ACode.region false [{ dst := some 160, op := .call 10 [], guard := none, deps := [] }, { dst := some 4, op := .mv (.t 160), guard := none, deps := [] }]).seq ACode.ret)))))))
theorem Tryd.F7 : FnFacts Tryd.prog 7 Tryd.f7 Tryd.ac7 161 [.tmp 4] := ⟨Tryd.func7, by kernel_rfl, by kernel_rfl, by kernel_rfl, by kernel_rfl, by kernel_rfl, by kernel_rfl, by kernel_rfl⟩
def Tryd.ac8 : ACode := ((ACode.region false [{ dst := some 3, op := .box 8 (.t 0), guard := none, deps := [] }, { dst := some 5, op := .box 3 (.t 2), guard := none, deps := [] }, { dst := some 6, op := .mv (.c (.bool false)), guard := none, deps := [] }]).seq (((ACode.region false [{ dst := some 16, op := .load 8 true (.t 3), guard := none, deps := [] }, { dst := some 17, op := .call 9 [.t 16], guard := none, deps := [] }, { dst := some 18, op := .mv (.t 17), guard := none, deps := [] }, { dst := some 19, op := .fieldAddr 0 (.t 5), guard := some (18, false), deps := [] }, { dst := some 20, op := .load 1 false (.t 19), guard := some (18, false), deps := [] }, { dst := some 21, op := .lenStr (.t 20), guard := some (18, false), deps := [] }, { dst := some 22, op := .bin .gtr (.t 21) (.c (.int .i64 (200))), guard := some (18, false), deps := [] }, { dst := some 23, op := .pick (.t 18) (.c (.bool true)) (.t 22), guard := none, deps := [] }, { dst := some 24, op := .mv (.t 23), guard := none, deps := [] }, { dst := some 25, op := .fieldAddr 1 (.t 5), guard := some (24, false), deps := [] }, { dst := some 26, op := .load 1 false (.t 25), guard := some (24, false), deps := [] }, { dst := some 27, op := .lenStr (.t 26), guard := some (24, false), deps := [] }, { dst := some 28, op := .bin .gtr (.t 27) (.c (.int .i64 (200))), guard := some (24, false), deps := [] }, { dst := some 29, op := .pick (.t 24) (.c (.bool true)) (.t 28), guard := none, deps := [] }, { dst := some 30, op := .mv (.t 29), guard := none, deps := [] }, { dst := some 31, op := .load 8 true (.t 3), guard := some (30, false), deps := [] }, { dst := some 32, op := .mv (.t 1), guard := some (30, false), deps := [] }, { dst := some 33, op := .call 14 [.t 31, .t 32], guard := some (30, false), deps := [] }, { dst := some 34, op := .bin .neq (.t 33) (.c (.int .i64 (0))), guard := some (30, false), deps := [] }, { dst := some 35, op := .pick (.t 30) (.c (.bool true)) (.t 34), guard := none, deps := [] }]).seq (ACode.cond (.t 35) ((ACode.region false [{ dst := some 36, op := .call 10 [], guard := none, deps := [] }, { dst := some 6, op := .mv (.t 36), guard := none, deps := [] }]).seq ACode.ret) ACode.skip)).seq ((ACode.region false [{ dst := some 38, op := .load 8 true (.t 3), guard := none, deps := [] }, { dst := some 39, op := .fieldAddr 0 (.t 5), guard := none, deps := [] }, { dst := some 40, op := .load 1 false (.t 39), guard := none, deps := [] }, { dst := some 41, op := .fieldAddr 1 (.t 5), guard := none, deps := [] }, { dst := some 42, op := .load 1 false (.t 41), guard := none, deps := [] }, { dst := some 43, op := .fieldAddr 2 (.t 5), guard := none, deps := [] }, { dst := some 44, op := .load 1 false (.t 43), guard := none, deps := [] }, { dst := some 45, op := .call 18 [.t 38, .t 40, .t 42, .t 44], guard := none, deps := [] }, { dst := some 37, op := .mv (.t 45), guard := none, deps := [] }, { dst := some 46, op := .extract (.t 37) 0, guard := none, deps := [] }, { dst := some 47, op := .extract (.t 37) 1, guard := none, deps := [] }, { dst := some 7, op := .alloc [.string ⟨⟨[]⟩⟩, .int .i64 (0), .int .i64 (0), .string ⟨⟨[]⟩⟩, .string ⟨⟨[]⟩⟩, .int .i64 (0), .int .i64 (0), .slice none 0 0], guard := none, deps := [] }, { dst := none, op := .store 8 (.t 7) (.t 46), guard := none, deps := [] }, { dst := some 8, op := .mv (.t 47), guard := none, deps := [] }]).seq ((ACode.region false [{ dst := some 49, op := .load 8 true (.t 3), guard := none, deps := [] }, { dst := some 50, op := .mv (.t 1), guard := none, deps := [] }, { dst := some 51, op := .fieldAddr 2 (.t 5), guard := none, deps := [] }, { dst := some 52, op := .load 1 false (.t 51), guard := none, deps := [] }, { dst := some 53, op := .bin .rem (.t 52) (.c (.int .i64 (6))), guard := none, deps := [] }, { dst := some 54, op := .fieldAddr 2 (.t 5), guard := none, deps := [] }, { dst := some 55, op := .load 1 false (.t 54), guard := none, deps := [] }, { dst := some 56, op := .bin .rem (.t 55) (.c (.int .i64 (2))), guard := none, deps := [] }, { dst := some 57, op := .bin .eql (.t 56) (.c (.int .i64 (0))), guard := none, deps := [] }, { dst := some 58, op := .call 22 [.t 49, .t 50, .t 53, .t 57], guard := none, deps := [] }, { dst := some 48, op := .mv (.t 58), guard := none, deps := [] }, { dst := some 59, op := .extract (.t 48) 0, guard := none, deps := [] }, { dst := some 60, op := .extract (.t 48) 1, guard := none, deps := [] }, { dst := some 9, op := .alloc [.string ⟨⟨[]⟩⟩, .int .i64 (0), .int .i64 (0), .string ⟨⟨[]⟩⟩, .string ⟨⟨[]⟩⟩, .int .i64 (0), .int .i64 (0), .slice none 0 0], guard := none, deps := [] }, { dst := none, op := .store 8 (.t 9) (.t 59), guard := none, deps := [] }, { dst := some 10, op := .mv (.t 60), guard := none, deps := [] }]).seq ((ACode.region false [{ dst := some 62, op := .load 8 true (.t 3), guard := none, deps := [] }, { dst := some 63, op := .fieldAddr 0 (.t 5), guard := none, deps := [] }, { dst := some 64, op := .load 1 false (.t 63), guard := none, deps := [] }, { dst := some 65, op := .fieldAddr 1 (.t 5), guard := none, deps := [] }, { dst := some 66, op := .load 1 false (.t 65), guard := none, deps := [] }, { dst := some 67, op := .fieldAddr 2 (.t 5), guard := none, deps := [] }, { dst := some 68, op := .load 1 false (.t 67), guard := none, deps := [] }, { dst := some 69, op := .call 20 [.t 62, .t 64, .t 66, .t 68], guard := none, deps := [] }, { dst := some 61, op := .mv (.t 69), guard := none, deps := [] }, { dst := some 70, op := .extract (.t 61) 0, guard := none, deps := [] }, { dst := some 71, op := .extract (.t 61) 1, guard := none, deps := [] }, { dst := some 11, op := .alloc [.string ⟨⟨[]⟩⟩, .int .i64 (0), .int .i64 (0), .string ⟨⟨[]⟩⟩, .string ⟨⟨[]⟩⟩, .int .i64 (0), .int .i64 (0), .slice none 0 0], guard := none, deps := [] }, { dst := none, op := .store 8 (.t 11) (.t 70), guard := none, deps := [] }, { dst := some 12, op := .mv (.t 71), guard := none, deps := [] }]).seq ((ACode.region false [{ dst := some 72, op := .load 8 true (.t 7), guard := none, deps := [] }, { dst := some 73, op := .load 8 true (.t 9), guard := none, deps := [] }, { dst := some 74, op := .load 8 true (.t 11), guard := none, deps := [] }, { dst := some 75, op := .buildSlice 26 8 [.t 72, .t 73, .t 74], guard := none, deps := [] }, { dst := some 13, op := .mv (.t 75), guard := none, deps := [] }]).seq ((ACode.region false [{ dst := some 76, op := .mv (.t 8), guard := none, deps := [] }, { dst := some 77, op := .bin .eql (.t 76) (.c (.int .i64 (0))), guard := none, deps := [] }, { dst := some 78, op := .mv (.t 10), guard := none, deps := [] }, { dst := some 79, op := .bin .eql (.t 78) (.c (.int .i64 (0))), guard := none, deps := [] }, { dst := some 80, op := .mv (.t 12), guard := none, deps := [] }, { dst := some 81, op := .bin .eql (.t 80) (.c (.int .i64 (0))), guard := none, deps := [] }, { dst := some 82, op := .buildSlice 4 1 [.t 77, .t 79, .t 81], guard := none, deps := [] }, { dst := some 14, op := .mv (.t 82), guard := none, deps := [] }]).seq (((ACode.region false [{ dst := some 15, op := .mv (.c (.int .i64 (0))), guard := none, deps := [] }]).seq (ACode.block 0 (((ACode.region false [{ dst := some 83, op := .mv (.t 15), guard := none, deps := [] }, { dst := some 84, op := .bin .lss (.t 83) (.c (.int .i64 (3))), guard := none, deps := [] }]).seq (ACode.cond (.t 84) ACode.skip (ACode.exit 0))).seq ((ACode.block 1 ((ACode.region true [{ dst := some 87, op := .mv (.t 14), guard := none, deps := [] }, { dst := some 88, op := .mv (.t 15), guard := none, deps := [] }, { dst := some 89, op := .idxAddr 1 (.t 87) (.t 88), guard := none, deps := [0, 1] }, { dst := some 90, op := .load 1 false (.t 89), guard := none, deps := [2] }, { dst := some 91, op := .mv (.t 90), guard := none, deps := [3] }, { dst := some 92, op := .mv (.t 13), guard := some (91, true), deps := [4] }, { dst := some 93, op := .mv (.t 15), guard := some (91, true), deps := [4] }, { dst := some 94, op := .idxAddr 8 (.t 92) (.t 93), guard := some (91, true), deps := [5, 6, 4] }, { dst := some 95, op := .load 8 true (.t 94), guard := some (91, true), deps := [7, 4] }, { dst := some 96, op := .mv (.t 1), guard := some (91, true), deps := [4] }, { dst := some 97, op := .call 14 [.t 95, .t 96], guard := some (91, true), deps := [8, 9, 4, 4] }, { dst := some 98, op := .bin .neq (.t 97) (.c (.int .i64 (0))), guard := some (91, true), deps := [10, 4] }, { dst := some 99, op := .mv (.t 98), guard := some (91, true), deps := [11, 10, 4] }, { dst := some 100, op := .mv (.t 13), guard := some (99, false), deps := [12] }, { dst := some 101, op := .mv (.t 15), guard := some (99, false), deps := [12] }, { dst := some 102, op := .idxAddr 8 (.t 100) (.t 101), guard := some (99, false), deps := [13, 14, 12] }, { dst := some 103, op := .fieldAddr 0 (.t 102), guard := some (99, false), deps := [15, 12] }, { dst := some 104, op := .load 1 false (.t 103), guard := some (99, false), deps := [16, 12] }, { dst := some 105, op := .fieldAddr 0 (.t 3), guard := some (99, false), deps := [12] }, { dst := some 106, op := .load 1 false (.t 105), guard := some (99, false), deps := [18, 12] }, { dst := some 107, op := .bin .neq (.t 104) (.t 106), guard := some (99, false), deps := [17, 19, 12] }, { dst := some 108, op := .pick (.t 99) (.c (.bool true)) (.t 107), guard := some (91, true), deps := [12, 20, 4] }, { dst := some 109, op := .mv (.t 108), guard := some (91, true), deps := [21, 12, 4] }, { dst := some 110, op := .mv (.t 13), guard := some (109, false), deps := [22] }, { dst := some 111, op := .mv (.t 15), guard := some (109, false), deps := [22] }, { dst := some 112, op := .idxAddr 8 (.t 110) (.t 111), guard := some (109, false), deps := [23, 24, 22] }, { dst := some 113, op := .fieldAddr 2 (.t 112), guard := some (109, false), deps := [25, 22] }, { dst := some 114, op := .load 1 false (.t 113), guard := some (109, false), deps := [26, 22] }, { dst := some 115, op := .fieldAddr 2 (.t 3), guard := some (109, false), deps := [22] }, { dst := some 116, op := .load 1 false (.t 115), guard := some (109, false), deps := [28, 22] }, { dst := some 117, op := .bin .neq (.t 114) (.t 116), guard := some (109, false), deps := [27, 29, 22] }, { dst := some 118, op := .pick (.t 109) (.c (.bool true)) (.t 117), guard := some (91, true), deps := [22, 30, 4] }, { dst := some 119, op := .pick (.t 91) (.t 118) (.c (.bool false)), guard := none, deps := [4, 31] }, { dst := some 120, op := .mv (.t 119), guard := none, deps := [32, 22] }, { dst := some 121, op := .mv (.t 14), guard := some (120, false), deps := [33] }, { dst := some 122, op := .mv (.t 15), guard := some (120, false), deps := [33] }, { dst := some 123, op := .idxAddr 1 (.t 121) (.t 122), guard := some (120, false), deps := [34, 35, 33] }, { dst := some 124, op := .load 1 false (.t 123), guard := some (120, false), deps := [36, 33] }, { dst := some 125, op := .un .not (.t 124), guard := some (120, false), deps := [37, 33] }, { dst := some 126, op := .mv (.t 125), guard := some (120, false), deps := [38, 33, 33] }, { dst := some 127, op := .mv (.t 13), guard := some (126, true), deps := [39] }, { dst := some 128, op := .mv (.t 15), guard := some (126, true), deps := [39] }, { dst := some 129, op := .idxAddr 8 (.t 127) (.t 128), guard := some (126, true), deps := [40, 41, 39] }, { dst := some 130, op := .load 8 true (.t 129), guard := some (126, true), deps := [42, 39] }, { dst := some 131, op := .build [.string ⟨⟨[]⟩⟩, .int .i64 (0), .int .i64 (0), .string ⟨⟨[]⟩⟩, .string ⟨⟨[]⟩⟩, .int .i64 (0), .int .i64 (0), .slice none 0 0] [], guard := some (126, true), deps := [39] }, { dst := some 132, op := .call 12 [.t 130, .t 131], guard := some (126, true), deps := [43, 44, 39, 39] }, { dst := some 133, op := .un .not (.t 132), guard := some (126, true), deps := [45, 39] }, { dst := some 134, op := .pick (.t 126) (.t 133) (.c (.bool false)), guard := some (120, false), deps := [39, 46, 33] }, { dst := some 135, op := .pick (.t 120) (.c (.bool true)) (.t 134), guard := none, deps := [33, 47] }]).seq (ACode.cond (.t 135) ((ACode.region false [{ dst := some 6, op := .mv (.c (.bool false)), guard := none, deps := [] }]).seq ACode.ret) ACode.skip))).seq (ACode.region false [{ dst := some 85, op := .mv (.t 15), guard := none, deps := [] }, { dst := some 86, op := .bin .add (.t 85) (.c (.int .i64 (1))), guard := none, deps := [] }, { dst := some 15, op := .mv (.t 86), guard := none, deps := [] }]))).loop)).seq ((ACode.region false [{ dst := some 136, op := .mv (.t 14), guard := none, deps := [] }, { dst := some 137, op := .idxAddr 1 (.t 136) (.c (.int .i64 (0))), guard := none, deps := [] }, { dst := some 138, op := .load 1 false (.t 137), guard := none, deps := [] }, { dst := some 139, op := .mv (.t 138), guard := none, deps := [] }, { dst := some 140, op := .mv (.t 14), guard := some (139, true), deps := [] }, { dst := some 141, op := .idxAddr 1 (.t 140) (.c (.int .i64 (1))), guard := some (139, true), deps := [] }, { dst := some 142, op := .load 1 false (.t 141), guard := some (139, true), deps := [] }, { dst := some 143, op := .pick (.t 139) (.t 142) (.c (.bool false)), guard := none, deps := [] }, { dst := some 144, op := .un .not (.t 143), guard := none, deps := [] }, { dst := some 145, op := .mv (.t 144), guard := none, deps := [] }, { dst := some 146, op := .mv (.t 14), guard := some (145, true), deps := [] }, { dst := some 147, op := .idxAddr 1 (.t 146) (.c (.int .i64 (0))), guard := some (145, true), deps := [] }, { dst := some 148, op := .load 1 false (.t 147), guard := some (145, true), deps := [] }, { dst := some 149, op := .mv (.t 148), guard := some (145, true), deps := [] }, { dst := some 150, op := .mv (.t 14), guard := some (149, true), deps := [] }, { dst := some 151, op := .idxAddr 1 (.t 150) (.c (.int .i64 (2))), guard := some (149, true), deps := [] }, { dst := some 152, op := .load 1 false (.t 151), guard := some (149, true), deps := [] }, { dst := some 153, op := .pick (.t 149) (.t 152) (.c (.bool false)), guard := some (145, true), deps := [] }, { dst := some 154, op := .un .not (.t 153), guard := some (145, true), deps := [] }, { dst := some 155, op := .pick (.t 145) (.t 154) (.c (.bool false)), guard := none, deps := [] }, { dst := some 156, op := .mv (.t 155), guard := none, deps := [] }, { dst := some 157, op := .mv (.t 14), guard := some (156, true), deps := [] }, { dst := some 158, op := .idxAddr 1 (.t 157) (.c (.int .i64 (1))), guard := some (156, true), deps := [] }, { dst := some 159, op := .load 1 false (.t 158), guard := some (156, true), deps := [] }, { dst := some 160, op := .mv (.t 159), guard := some (156, true), deps := [] }, { dst := some 161, op := .mv (.t 14), guard := some (160, true), deps := [] }, { dst := some 162, op := .idxAddr 1 (.t 161) (.c (.int .i64 (2))), guard := some (160, true), deps := [] }, { dst := some 163, op := .load 1 false (.t 162), guard := some (160, true), deps := [] }, { dst := some 164, op := .pick (.t 160) (.t 163) (.c (.bool false)), guard := some (156, true), deps := [] }, { dst := some 165, op := .un .not (.t 164), guard := some (156, true), deps := [] }, { dst := some 166, op := .pick (.t 156) (.t 165) (.c (.bool false)), guard := none, deps := [] }, { dst := some 167, op := .mv (.t 166), guard := none, deps := [] }, { dst := some 168, op := .call 10 [], guard := some (167, true), deps := [] }, { dst := some 169, op := .pick (.t 167) (.t 168) (.c (.bool false)), guard := none, deps := [] }, { dst := some 6, op := .mv (.t 169), guard := none, deps := [] }]).seq ACode.ret)))))))))
theorem Tryd.F8 : FnFacts Tryd.prog 8 Tryd.f8 Tryd.ac8 170 [.tmp 6] := ⟨Tryd.func8, by kernel_rfl, by kernel_rfl, by kernel_rfl, by kernel_rfl, by kernel_rfl, by kernel_rfl, by kernel_rfl⟩
def Tryd.ac24 : ACode := ((ACode.region false [{ dst := some 4, op := .box 8 (.t 0), guard := none, deps := [] }, { dst := some 7, op := .box 2 (.t 3), guard := none, deps := [] }, { dst := some 8, op := .alloc [.string ⟨⟨[]⟩⟩, .int .i64 (0), .int .i64 (0), .string ⟨⟨[]⟩⟩, .string ⟨⟨[]⟩⟩, .int .i64 (0), .int .i64 (0), .slice none 0 0], guard := none, deps := [] }, { dst := some 9, op := .mv (.c (.bool false)), guard := none, deps := [] }]).seq (((ACode.region false [{ dst := some 16, op := .fieldAddr 1 (.t 4), guard := none, deps := [] }, { dst := some 17, op := .load 1 false (.t 16), guard := none, deps := [] }, { dst := some 18, op := .bin .eql (.t 17) (.c (.int .i64 (1))), guard := none, deps := [] }]).seq (ACode.cond (.t 18) ((ACode.region false [{ dst := some 20, op := .load 8 true (.t 4), guard := none, deps := [] }, { dst := some 21, op := .mv (.t 2), guard := none, deps := [] }, { dst := some 22, op := .call 18 [.t 20, .c (.string ⟨⟨[(87 : UInt8), (49 : UInt8)]⟩⟩), .c (.string ⟨⟨[(65 : UInt8), (110 : UInt8), (110 : UInt8)]⟩⟩), .t 21], guard := none, deps := [] }, { dst := some 19, op := .mv (.t 22), guard := none, deps := [] }, { dst := some 23, op := .extract (.t 19) 0, guard := none, deps := [] }, { dst := some 24, op := .extract (.t 19) 1, guard := none, deps := [] }, { dst := some 10, op := .alloc [.string ⟨⟨[]⟩⟩, .int .i64 (0), .int .i64 (0), .string ⟨⟨[]⟩⟩, .string ⟨⟨[]⟩⟩, .int .i64 (0), .int .i64 (0), .slice none 0 0], guard := none, deps := [] }, { dst := none, op := .store 8 (.t 10) (.t 23), guard := none, deps := [] }, { dst := some 11, op := .mv (.t 24), guard := none, deps := [] }]).seq ((ACode.region false [{ dst := some 25, op := .load 8 true (.t 10), guard := none, deps := [] }, { dst := some 26, op := .mv (.t 11), guard := none, deps := [] }, { dst := some 27, op := .bin .eql (.t 26) (.c (.int .i64 (0))), guard := none, deps := [] }, { dst := none, op := .store 8 (.t 8) (.t 25), guard := none, deps := [] }, { dst := some 9, op := .mv (.t 27), guard := none, deps := [] }]).seq ACode.ret)) ACode.skip)).seq (((ACode.region false [{ dst := some 28, op := .fieldAddr 1 (.t 4), guard := none, deps := [] }, { dst := some 29, op := .load 1 false (.t 28), guard := none, deps := [] }, { dst := some 30, op := .bin .eql (.t 29) (.c (.int .i64 (3))), guard := none, deps := [] }]).seq (ACode.cond (.t 30) ((ACode.region false [{ dst := some 32, op := .load 8 true (.t 4), guard := none, deps := [] }, { dst := some 33, op := .mv (.t 2), guard := none, deps := [] }, { dst := some 34, op := .call 20 [.t 32, .c (.string ⟨⟨[(87 : UInt8), (50 : UInt8)]⟩⟩), .c (.string ⟨⟨[(66 : UInt8), (111 : UInt8), (98 : UInt8)]⟩⟩), .t 33], guard := none, deps := [] }, { dst := some 31, op := .mv (.t 34), guard := none, deps := [] }, { dst := some 35, op := .extract (.t 31) 0, guard := none, deps := [] }, { dst := some 36, op := .extract (.t 31) 1, guard := none, deps := [] }, { dst := some 12, op := .alloc [.string ⟨⟨[]⟩⟩, .int .i64 (0), .int .i64 (0), .string ⟨⟨[]⟩⟩, .string ⟨⟨[]⟩⟩, .int .i64 (0), .int .i64 (0), .slice none 0 0], guard := none, deps := [] }, { dst := none, op := .store 8 (.t 12) (.t 35), guard := none, deps := [] }, { dst := some 13, op := .mv (.t 36), guard := none, deps := [] }]).seq ((ACode.region false [{ dst := some 37, op := .load 8 true (.t 12), guard := none, deps := [] }, { dst := some 38, op := .mv (.t 13), guard := none, deps := [] }, { dst := some 39, op := .bin .eql (.t 38) (.c (.int .i64 (0))), guard := none, deps := [] }, { dst := none, op := .store 8 (.t 8) (.t 37), guard := none, deps := [] }, { dst := some 9, op := .mv (.t 39), guard := none, deps := [] }]).seq ACode.ret)) ACode.skip)).seq ((ACode.region false [{ dst := some 41, op := .load 8 true (.t 4), guard := none, deps := [] }, { dst := some 42, op := .mv (.t 1), guard := none, deps := [] }, { dst := some 43, op := .fieldAddr 0 (.t 7), guard := none, deps := [] }, { dst := some 44, op := .load 1 false (.t 43), guard := none, deps := [] }, { dst := some 45, op := .fieldAddr 1 (.t 7), guard := none, deps := [] }, { dst := some 46, op := .load 1 false (.t 45), guard := none, deps := [] }, { dst := some 47, op := .call 22 [.t 41, .t 42, .t 44, .t 46], guard := none, deps := [] }, { dst := some 40, op := .mv (.t 47), guard := none, deps := [] }, { dst := some 48, op := .extract (.t 40) 0, guard := none, deps := [] }, { dst := some 49, op := .extract (.t 40) 1, guard := none, deps := [] }, { dst := some 14, op := .alloc [.string ⟨⟨[]⟩⟩, .int .i64 (0), .int .i64 (0), .string ⟨⟨[]⟩⟩, .string ⟨⟨[]⟩⟩, .int .i64 (0), .int .i64 (0), .slice none 0 0], guard := none, deps := [] }, { dst := none, op := .store 8 (.t 14) (.t 48), guard := none, deps := [] }, { dst := some 15, op := .mv (.t 49), guard := none, deps := [] }]).seq ((ACode.region false [{ dst := some 50, op := .load 8 true (.t 14), guard := none, deps := [] }, { dst := some 51, op := .mv (.t 15), guard := none, deps := [] }, { dst := some 52, op := .bin .eql (.t 51) (.c (.int .i64 (0))), guard := none, deps := [] }, { dst := none, op := .store 8 (.t 8) (.t 50), guard := none, deps := [] }, { dst := some 9, op := .mv (.t 52), guard := none, deps := [] }]).seq ACode.ret)))))
theorem Tryd.F24 : FnFacts Tryd.prog 24 Tryd.f24 Tryd.ac24 53 [.cell 8 26, .tmp 9] := ⟨Tryd.func24, by kernel_rfl, by kernel_rfl, by kernel_rfl, by kernel_rfl, by kernel_rfl, by kernel_rfl, by kernel_rfl⟩
def Tryd.ac25 : ACode := ((ACode.region false [{ dst := some 2, op := .box 6 (.t 0), guard := none, deps := [] }, { dst := some 3, op := .box 6 (.t 1), guard := none, deps := [] }, { dst := some 4, op := .mv (.c (.bool false)), guard := none, deps := [] }]).seq ((ACode.region false [{ dst := some 7, op := .fieldAddr 3 (.t 3), guard := none, deps := [] }, { dst := some 8, op := .load 1 false (.t 7), guard := none, deps := [] }, { dst := some 9, op := .fieldAddr 5 (.t 3), guard := none, deps := [] }, { dst := some 10, op := .load 1 false (.t 9), guard := none, deps := [] }, { dst := some 11, op := .call 40 [.t 8, .t 10], guard := none, deps := [] }, { dst := some 5, op := .mv (.t 11), guard := none, deps := [] }]).seq (((ACode.region false [{ dst := some 6, op := .mv (.c (.int .i64 (0))), guard := none, deps := [] }]).seq (ACode.block 0 (((ACode.region false [{ dst := some 12, op := .mv (.t 6), guard := none, deps := [] }, { dst := some 13, op := .mv (.t 5), guard := none, deps := [] }, { dst := some 14, op := .len (.t 13), guard := none, deps := [] }, { dst := some 15, op := .bin .lss (.t 12) (.t 14), guard := none, deps := [] }]).seq (ACode.cond (.t 15) ACode.skip (ACode.exit 0))).seq ((ACode.block 1 ((ACode.region false [{ dst := some 18, op := .mv (.t 5), guard := none, deps := [] }, { dst := some 19, op := .mv (.t 6), guard := none, deps := [] }, { dst := some 20, op := .idxAddr 1 (.t 18) (.t 19), guard := none, deps := [] }, { dst := some 21, op := .load 1 false (.t 20), guard := none, deps := [] }, { dst := some 22, op := .bin .lss (.t 21) (.c (.int .i64 (0))), guard := none, deps := [] }, { dst := some 23, op := .mv (.t 22), guard := none, deps := [] }, { dst := some 24, op := .mv (.t 5), guard := some (23, false), deps := [] }, { dst := some 25, op := .mv (.t 6), guard := some (23, false), deps := [] }, { dst := some 26, op := .idxAddr 1 (.t 24) (.t 25), guard := some (23, false), deps := [] }, { dst := some 27, op := .load 1 false (.t 26), guard := some (23, false), deps := [] }, { dst := some 28, op := .bin .gtr (.t 27) (.c (.int .i64 (5))), guard := some (23, false), deps := [] }, { dst := some 29, op := .pick (.t 23) (.c (.bool true)) (.t 28), guard := none, deps := [] }, { dst := some 30, op := .mv (.t 29), guard := none, deps := [] }, { dst := some 31, op := .mv (.t 5), guard := some (30, false), deps := [] }, { dst := some 32, op := .mv (.t 6), guard := some (30, false), deps := [] }, { dst := some 33, op := .idxAddr 1 (.t 31) (.t 32), guard := some (30, false), deps := [] }, { dst := some 34, op := .load 1 false (.t 33), guard := some (30, false), deps := [] }, { dst := some 35, op := .idxPtr 6 1 (.t 2) (.t 34), guard := some (30, false), deps := [] }, { dst := some 36, op := .load 1 false (.t 35), guard := some (30, false), deps := [] }, { dst := some 37, op := .un .not (.t 36), guard := some (30, false), deps := [] }, { dst := some 38, op := .pick (.t 30) (.c (.bool true)) (.t 37), guard := none, deps := [] }]).seq (ACode.cond (.t 38) ((ACode.region false [{ dst := some 4, op := .mv (.c (.bool false)), guard := none, deps := [] }]).seq ACode.ret) ACode.skip))).seq (ACode.region false [{ dst := some 16, op := .mv (.t 6), guard := none, deps := [] }, { dst := some 17, op := .bin .add (.t 16) (.c (.int .i64 (1))), guard := none, deps := [] }, { dst := some 6, op := .mv (.t 17), guard := none, deps := [] }]))).loop)).seq ((ACode.region false [{ dst := some 4, op := .mv (.c (.bool true)), guard := none, deps := [] }]).seq ACode.ret))))
theorem Tryd.F25 : FnFacts Tryd.prog 25 Tryd.f25 Tryd.ac25 39 [.tmp 4] := ⟨Tryd.func25, by kernel_rfl, by kernel_rfl, by kernel_rfl, by kernel_rfl, by kernel_rfl, by kernel_rfl, by kernel_rfl⟩
end Go.Proofs
end
section
set_option linter.unusedVariables false
set_option linter.unusedSimpArgs false
namespace Go.Proofs
open Go Go.Ab
set_option maxHeartbeats 4000000
set_option maxRecDepth 100000
set_option linter.unusedSimpArgs false
set_option linter.unusedVariables false
def sW1 : ByteArray := ⟨⟨[87, 49]⟩⟩
def sAnn : ByteArray := ⟨⟨[65, 110, 110]⟩⟩
def sW2 : ByteArray := ⟨⟨[87, 50]⟩⟩
def sBob : ByteArray := ⟨⟨[66, 111, 98]⟩⟩
def stepR (w : Wd) (k a : Int) (x : Ts) : Wd × Int :=
  if w.state == 1 then startE w sW1 sAnn a else if w.state == 3 then repairE w sW2 sBob a else inspectE w k x.method x.pass
def neededB (bs : List Bool) (s : Sm) : Bool := (methods s.kind s.cls).all fun m => bs.getD m.toNat false
structure LInv (s : Sm) (i : Nat) (w : Wd) (bs : List Bool) (f : Bool) (rp : Int) : Prop where
  ck : checkE w s.kind = 0
  cls : w.cls = s.cls
  len : bs.length = 6
  fl : f = (w.state == 3 || w.state == 5)
  rep : w.repairs = rp
  time : w.state ≠ 1 → w.at_ ≤ i
  mem : ∀ m : Int, 0 ≤ m → m ≤ 5 → (bs.getD m.toNat false = true ↔ m ∈ w.passed)
  plen : w.passed.length ≤ i
theorem methods_range (k c : Int) : ∀ m ∈ methods k c, 1 ≤ m ∧ m ≤ 4 := by
  intro m hm
  unfold methods at hm
  repeat' split at hm
  all_goals (simp at hm; try omega)
theorem new_passed {w : Wd} {k : Int} (h : checkE w k = 0) (h1 : w.state = 1) : w.passed = [] ∧ w.repairs = 0 := by
  obtain ⟨hb, _, _⟩ := check_base h
  have h3 := hb.c1
  have h4 := hb.c3
  have h5 := hb.kind
  unfold checkE at h
  rw [if_neg (by simp [hb.id]), if_neg (by simp; omega), if_neg (by simp; omega), if_neg (by simp; omega), if_neg (by simp [h1])] at h
  unfold openE at h
  split at h
  · simp at h
  · rename_i hn
    simp [openB] at hn
    exact ⟨hn.2, hn.1.2⟩
theorem linv_acc {s : Sm} {i : Nat} {w : Wd} {bs : List Bool} {f : Bool} {rp : Int} (h : LInv s i w bs f rp) (h1 : w.state ≠ 1) : (w.state == 4) = (!f && neededB bs s) ∧ rp ≤ 2 := by
  obtain ⟨hb, hst, hm⟩ := (check_made h1).1 h.ck
  have hn : neededB bs s = allIn w.passed (methods s.kind w.cls) := by
    rw [h.cls]
    unfold neededB allIn
    have hcg : ∀ (l : List Int), (∀ m ∈ l, 1 ≤ m ∧ m ≤ 4) → (l.all fun m => bs.getD m.toNat false) = l.all fun n => w.passed.contains n := by
      intro l
      induction l with
      | nil => intro _; rfl
      | cons m l ih =>
        intro hl
        simp only [List.all_cons]
        rw [ih fun q hq => hl q (List.mem_cons.2 (.inr hq))]
        congr 1
        obtain ⟨r1, r2⟩ := hl m (List.mem_cons.2 (.inl rfl))
        have := h.mem m (by omega) (by omega)
        rw [Bool.eq_iff_iff, this]
        simp
    exact hcg _ (methods_range _ _)
  refine ⟨?_, by rw [← h.rep]; exact hm.r2⟩
  rw [hn]
  cases hf : f with
  | true =>
    have := h.fl
    rw [hf] at this
    have : w.state = 3 ∨ w.state = 5 := by simpa using this.symm
    have e : (w.state == 4) = false := by rw [beq_eq_false_iff_ne]; omega
    rw [e]; rfl
  | false =>
    have e : (w.state == 4) = allIn w.passed (methods s.kind w.cls) := by
      cases h' : allIn w.passed (methods s.kind w.cls)
      · rw [beq_eq_false_iff_ne]; intro e; rw [hm.s4.1 e] at h'; cases h'
      · rw [beq_iff_eq]; exact hm.s4.2 h'
    rw [e]; rfl
theorem getD_false (m : Nat) : [false, false, false, false, false, false].getD m false = false := by
  match m with
  | 0 | 1 | 2 | 3 | 4 | 5 => rfl
  | m + 6 => rfl
theorem linv_made {s : Sm} {i : Nat} {w : Wd} {p b : ByteArray} {a r rp : Int} (hi : (i : Int) = a) (hc : checkE (w.made p b a r) s.kind = 0) (hcl : w.cls = s.cls) (hr : r = rp) : LInv s (i + 1) (w.made p b a r) [false, false, false, false, false, false] false rp :=
  ⟨hc, hcl, rfl, rfl, hr, fun _ => by show a ≤ _; omega, fun m h0 h5 => by rw [getD_false]; simp [Wd.made], by simp [Wd.made]⟩
theorem step_open {s : Sm} {i : Nat} {w : Wd} {bs : List Bool} {f : Bool} {rp : Int} (h : LInv s i w bs f rp) (hi : i ≤ 60) (x : Ts) (h1 : w.state = 1) :
    (stepR w s.kind i x).2 = 0 ∧ (stepR w s.kind i x).1.state = 2 ∧ LInv s (i + 1) (stepR w s.kind i x).1 [false, false, false, false, false, false] false rp := by
  have e : stepR w s.kind i x = (w.made sW1 sAnn i 0, 0) := by
    unfold stepR startE
    rw [if_pos (by simp [h1]), if_neg (by simp [h1]), if_neg (by decide), if_neg (by simp; omega)]
  have hb := (check_base h.ck).1
  rw [e]
  refine ⟨rfl, rfl, linv_made rfl (made_new hb (by decide) (by decide) (by omega) (by omega) (by omega) (by omega)) h.cls ?_⟩
  rw [← h.rep, (new_passed h.ck h1).2]
theorem step_failed {s : Sm} {i : Nat} {w : Wd} {bs : List Bool} {f : Bool} {rp : Int} (h : LInv s i w bs f rp) (hi : i ≤ 60) (x : Ts) (h1 : w.state = 3) :
    (stepR w s.kind i x).2 = 0 ∧ (stepR w s.kind i x).1.state = 2 ∧ LInv s (i + 1) (stepR w s.kind i x).1 [false, false, false, false, false, false] false (rp + 1) := by
  obtain ⟨hb, _, hm⟩ := (check_made (by omega)).1 h.ck
  have h3 := hm.s3 h1
  have h0 := hm.r0
  have ew : IntKind.i64.wrap (w.repairs + 1) = w.repairs + 1 := wrap_i64 (by omega) (by omega)
  have ht := h.time (by omega)
  have e : stepR w s.kind i x = (w.made sW2 sBob i (w.repairs + 1), 0) := by
    unfold stepR repairE
    rw [if_neg (by simp [h1]), if_pos (by simp [h1]), if_neg (by simp [h1]), if_neg (by decide), if_neg (by simp; omega), ew]
  rw [e]
  refine ⟨rfl, rfl, linv_made rfl (made_new hb (by decide) (by decide) (by omega) (by omega) (by omega) (by omega)) h.cls (by rw [h.rep])⟩
theorem step_done {s : Sm} {i : Nat} {w : Wd} (x : Ts) (h1 : w.state = 4 ∨ w.state = 5) : (stepR w s.kind i x).2 ≠ 0 := by
  unfold stepR inspectE
  rw [if_neg (by simp; omega), if_neg (by simp; omega), if_pos (by simp; omega)]
  decide
theorem inspect_form {w : Wd} {k m : Int} {p : Bool} (h : (inspectE w k m p).2 = 0) : m ∈ methods k w.cls ∧ m ∉ w.passed ∧
    (p = false → (inspectE w k m p).1 = ⟨w.seam, if decide (w.repairs < 2) then 3 else 5, w.cls, w.proc, w.by_, w.at_, w.repairs, w.passed⟩) ∧
    (p = true → (inspectE w k m p).1 = ⟨w.seam, if allIn (newP w m) (methods k w.cls) then 4 else w.state, w.cls, w.proc, w.by_, w.at_, w.repairs, newP w m⟩) := by
  by_cases h1 : (w.state != 2) = true
  · unfold inspectE at h; rw [if_pos h1] at h; simp at h
  by_cases h2 : (!(methods k w.cls).contains m || w.passed.contains m) = true
  · unfold inspectE at h; rw [if_neg h1, if_pos h2] at h; simp at h
  have h3 := h2
  simp at h2
  refine ⟨h2.1, h2.2, fun e => ?_, fun e => ?_⟩
  · subst e; unfold inspectE; rw [if_neg h1, if_neg h3, if_pos (by decide)]
  · subst e; unfold inspectE; rw [if_neg h1, if_neg h3, if_neg (by decide)]
theorem getD_set (bs : List Bool) (a b : Nat) (h : a < bs.length) : (bs.set a true).getD b false = (b == a || bs.getD b false) := by
  simp only [List.getD_eq_getElem?_getD, List.getElem?_set]
  by_cases e : a = b
  · subst e; simp [h]
  · rw [if_neg e]
    have : (b == a) = false := by rw [beq_eq_false_iff_ne]; exact fun h => e h.symm
    rw [this]; rfl
theorem newP_len (w : Wd) (m : Int) : (newP w m).length ≤ w.passed.length + 1 := by
  refine Nat.le_trans (compact_len _) ?_
  rw [sortI_len]; simp
theorem step_welded {s : Sm} {i : Nat} {w : Wd} {bs : List Bool} {f : Bool} {rp : Int} (h : LInv s i w bs f rp) (x : Ts) (h1 : w.state = 2) (h2 : (stepR w s.kind i x).2 = 0) :
    1 ≤ x.method ∧ x.method ≤ 4 ∧ bs.getD x.method.toNat false = false ∧ (stepR w s.kind i x).1.state ≠ 1 ∧ f = false ∧
    (x.pass = true → LInv s (i + 1) (stepR w s.kind i x).1 (bs.set x.method.toNat true) false rp) ∧ (x.pass = false → LInv s (i + 1) (stepR w s.kind i x).1 bs true rp) := by
  have e : stepR w s.kind i x = inspectE w s.kind x.method x.pass := by
    unfold stepR
    rw [if_neg (by simp; omega), if_neg (by simp; omega)]
  rw [e] at h2 ⊢
  obtain ⟨_, hk, _, hcl⟩ := inspect_keeps h.ck h2
  obtain ⟨m1, m2, m3, m4⟩ := inspect_form h2
  obtain ⟨r1, r2⟩ := methods_range _ _ _ m1
  have hf : f = false := by rw [h.fl, h1]; rfl
  have hb : bs.getD x.method.toNat false = false := by
    rw [Bool.eq_false_iff]
    exact fun hh => m2 ((h.mem _ (by omega) (by omega)).1 hh)
  refine ⟨r1, r2, hb, ?_, hf, fun hp => ?_, fun hp => ?_⟩
  · cases hp : x.pass with
    | true => rw [hp] at m4; rw [m4 rfl]; dsimp only; split <;> omega
    | false => rw [hp] at m3; rw [m3 rfl]; dsimp only; split <;> omega
  · have m5 := m4 hp
    rw [m5] at hk hcl ⊢
    obtain ⟨n1, n2⟩ := newP_spec w x.method
    refine ⟨hk, hcl.trans h.cls, by rw [List.length_set]; exact h.len, ?_, h.rep, fun _ => ?_, fun m h0 h5 => ?_, ?_⟩
    · dsimp only; split <;> simp [h1]
    · have := h.time (by omega); dsimp only; omega
    · rw [getD_set _ _ _ (by rw [h.len]; omega)]
      dsimp only
      rw [n2, ← h.mem m h0 h5]
      simp only [Bool.or_eq_true, beq_iff_eq]
      constructor
      · rintro (hh | hh)
        · exact .inr (by omega)
        · exact .inl hh
      · rintro (hh | hh)
        · exact .inr hh
        · exact .inl (by omega)
    · have := newP_len w x.method; have := h.plen; dsimp only; omega
  · have m5 := m3 hp
    rw [m5] at hk hcl ⊢
    refine ⟨hk, hcl.trans h.cls, h.len, ?_, h.rep, fun _ => ?_, h.mem, ?_⟩
    · dsimp only; split <;> simp
    · have := h.time (by omega); dsimp only; omega
    · have := h.plen; dsimp only; omega
end Go.Proofs
end
section
set_option linter.unusedVariables false
set_option linter.unusedSimpArgs false
namespace Go.Proofs
open Go Go.Ab
set_option maxHeartbeats 4000000
set_option maxRecDepth 100000
set_option linter.unusedSimpArgs false
set_option linter.unusedVariables false
attribute [local irreducible] Awp aops aopsL Go.Ab.Pure PureOwn
def stT (x : Wd × Int) : AV := .tup [x.1.av, .v (.bool (x.2 == 0))]
theorem stepp_ok (w : Wd) (k a : Int) (x : Ts) (hl : w.passed.length < 999999) : Pure Tryd.prog 24 [w.av, .v (.int .i64 k), .v (.int .i64 a), x.av] (stT (stepR w k a x)) := by
  have c0 := start_ok w sW1 sAnn a
  have c1 := repair_ok w sW2 sBob a
  have c2 := inspect_ok w k x.method x.pass hl
  unfold sW1 sAnn at c0
  unfold sW2 sBob at c1
  unfold stT stepR sW1 sAnn sW2 sBob
  cases h1 : (w.state == 1)
  · cases h3 : (w.state == 3)
    · refine fn_pure Tryd.F24 (Nat.le_of_ble_eq_true rfl) ?_; unfold Tryd.ac24
      repeat' (first
    | (apply Awp.sreg; (case hn => (simp only [List.length_cons, List.length_nil, Nat.reduceAdd] <;> rfl)))
    | (apply Awp.sdraw; (case hn => (simp only [List.length_cons, List.length_nil, Nat.reduceAdd] <;> rfl)))
    | (refine st_nil ?_)
    | (apply st_a; (case hc => rfl); (case he => (simp only [go_sem, *] <;> rfl)); (case hu => (simp only [updL_nil, updL_cons] <;> rfl)); (case hp => first | trivial | assumption | omega | (simp; done) | (simp; omega) | (simp [*]; done) | ((repeat' (refine And.intro ?_ ?_)) <;> first | trivial | assumption | omega | (simp; done) | (simp; omega) | (simp [*]; done))))
    | (apply st_m; (case hc => rfl); (case hg => (simp only [go_sem, *] <;> rfl)); (case he => (intro hQz; (try simp only [wantB_t, wantB_f, Bool.and_eq_true, Bool.not_eq_true', Bool.not_true, Bool.not_false, and_true, true_and] at hQz); simp only [go_sem, *] <;> rfl)); (case hp => (intro hQz; (try simp only [wantB_t, wantB_f, Bool.and_eq_true, Bool.not_eq_true', Bool.or_eq_false_iff, decide_eq_true_eq, decide_eq_false_iff_not, beq_iff_eq, beq_eq_false_iff_ne, bne_iff_ne, bne_eq_false_iff_eq, Int.not_lt, Int.not_le, Int.ofNat_lt, Int.ofNat_le] at hQz); first | trivial | assumption | omega | (simp; done) | (simp; omega) | (simp [*]; done) | ((repeat' (refine And.intro ?_ ?_)) <;> first | trivial | assumption | omega | (simp; done) | (simp; omega) | (simp [*]; done)))))
    | (apply st_mc; (case hop => rfl); (case hg => (simp only [go_sem, *] <;> rfl)); (case hc => (intro hQz; (try simp only [wantB_t, wantB_f, Bool.and_eq_true, Bool.not_eq_true', Bool.not_true, Bool.not_false, and_true, true_and] at hQz); simp only [go_sem, *] <;> rfl)); (case hl => (intro hQz; (try simp only [wantB_t, wantB_f, Bool.and_eq_true, Bool.not_eq_true', Bool.not_true, Bool.not_false, and_true, true_and] at hQz); simp only [go_sem, *] <;> rfl)); (case hn => (intro hQz; (try simp only [wantB_t, wantB_f, Bool.and_eq_true, Bool.not_eq_true', Bool.not_true, Bool.not_false, and_true, true_and] at hQz); simp only [go_sem, *] <;> rfl)); (case hp => intro hQz; first | exact c2 | (have hXz := c2; simp only [go_sem, *] at hXz; exact hXz)))
    | (apply st_c; (case hc => (simp only [go_sem, *] <;> rfl)); (case hl => (simp only [go_sem, *] <;> rfl)); (case hn => (simp only [go_sem, *] <;> rfl)); (case hp => first | exact c2 | (have hXz := c2; simp only [go_sem, *] at hXz; exact hXz)))
    | (apply st_cd; (case hc => (simp only [go_sem, *] <;> rfl)); (case hl => (simp only [go_sem, *] <;> rfl)); (case hn => (simp only [go_sem, *] <;> rfl)); (case hp => first | exact c2 | (have hXz := c2; simp only [go_sem, *] at hXz; exact hXz)); (case hd => first | exact .v _ | exact .any | exact .nils); (case hm => first | decide | (simp; done)))
    | (apply st_gu; (case hv => (simp only [go_sem, *] <;> rfl)))
    | (apply st_g; (case hv => (simp only [go_sem, *] <;> rfl)); all_goals (intro hg; (try simp only [Bool.not_true, Bool.not_false, reduceCtorEq] at hg)))
    | (apply Awp.reg; (case hn => (simp only [List.length_cons, List.length_nil, Nat.reduceAdd] <;> rfl)))
    | (refine Awp.ret ?_; try simp only [go_sem, *])
    | (refine Awp.skip ?_; try simp only [go_sem, *])
    | (refine Awp.exit ?_; try simp only [go_sem, *])
    | refine Awp.scope ?_
    | refine Awp.block ?_
    | (apply Awp.cond; (case hc => (simp only [go_sem, *] <;> rfl)); all_goals (intro hg; (try simp only [Bool.not_true, Bool.not_false, reduceCtorEq] at hg)))
    | refine Awp.seq ?_)
      all_goals repeat' (first | exact Lower.any _ | exact Lower.bool (by first | rfl | (simp only [true_and, Bool.true_and, Bool.false_and, Bool.and_true, Bool.and_false, Bool.true_or, Bool.false_or, reduceIte, Bool.false_eq_true, *]; done) | (simp only [true_and, reduceIte, Bool.false_eq_true, *] <;> rfl) | (simp [true_and]; done) | (simp_all [true_and]; done) | omega) | exact Lower.int (by first | rfl | (simp only [true_and, Bool.true_and, Bool.false_and, Bool.and_true, Bool.and_false, Bool.true_or, Bool.false_or, reduceIte, Bool.false_eq_true, *]; done) | (simp only [true_and, reduceIte, Bool.false_eq_true, *] <;> rfl) | (simp [true_and]; done) | (simp_all [true_and]; done) | omega) | exact Lower.str (by first | rfl | (simp only [true_and, Bool.true_and, Bool.false_and, Bool.and_true, Bool.and_false, Bool.true_or, Bool.false_or, reduceIte, Bool.false_eq_true, *]; done) | (simp only [true_and, reduceIte, Bool.false_eq_true, *] <;> rfl) | (simp [true_and]; done) | (simp_all [true_and]; done) | omega) | exact Lower.ownE (by simp only [go_sem, *] <;> rfl) (by first | rfl | (simp only [true_and, Bool.true_and, Bool.false_and, Bool.and_true, Bool.and_false, Bool.true_or, Bool.false_or, reduceIte, Bool.false_eq_true, *]; done) | (simp only [true_and, reduceIte, Bool.false_eq_true, *] <;> rfl) | (simp [true_and]; done) | (simp_all [true_and]; done) | omega) | exact Lower.nilE (by first | rfl | (simp only [true_and, Bool.true_and, Bool.false_and, Bool.and_true, Bool.and_false, Bool.true_or, Bool.false_or, reduceIte, Bool.false_eq_true, *]; done) | (simp only [true_and, reduceIte, Bool.false_eq_true, *] <;> rfl) | (simp [true_and]; done) | (simp_all [true_and]; done) | omega) | exact Lower.slE' (by first | rfl | (simp only [true_and, Bool.true_and, Bool.false_and, Bool.and_true, Bool.and_false, Bool.true_or, Bool.false_or, reduceIte, Bool.false_eq_true, *]; done) | (simp only [true_and, reduceIte, Bool.false_eq_true, *] <;> rfl) | (simp [true_and]; done) | (simp_all [true_and]; done) | omega) | exact Lower.same _ rfl | refine Lower.aggF ?_ | refine Lower.tupF ?_ | refine All2.cons ?_ ?_ | exact All2.nil)
    · refine fn_pure Tryd.F24 (Nat.le_of_ble_eq_true rfl) ?_; unfold Tryd.ac24
      repeat' (first
    | (apply Awp.sreg; (case hn => (simp only [List.length_cons, List.length_nil, Nat.reduceAdd] <;> rfl)))
    | (apply Awp.sdraw; (case hn => (simp only [List.length_cons, List.length_nil, Nat.reduceAdd] <;> rfl)))
    | (refine st_nil ?_)
    | (apply st_a; (case hc => rfl); (case he => (simp only [go_sem, *] <;> rfl)); (case hu => (simp only [updL_nil, updL_cons] <;> rfl)); (case hp => first | trivial | assumption | omega | (simp; done) | (simp; omega) | (simp [*]; done) | ((repeat' (refine And.intro ?_ ?_)) <;> first | trivial | assumption | omega | (simp; done) | (simp; omega) | (simp [*]; done))))
    | (apply st_m; (case hc => rfl); (case hg => (simp only [go_sem, *] <;> rfl)); (case he => (intro hQz; (try simp only [wantB_t, wantB_f, Bool.and_eq_true, Bool.not_eq_true', Bool.not_true, Bool.not_false, and_true, true_and] at hQz); simp only [go_sem, *] <;> rfl)); (case hp => (intro hQz; (try simp only [wantB_t, wantB_f, Bool.and_eq_true, Bool.not_eq_true', Bool.or_eq_false_iff, decide_eq_true_eq, decide_eq_false_iff_not, beq_iff_eq, beq_eq_false_iff_ne, bne_iff_ne, bne_eq_false_iff_eq, Int.not_lt, Int.not_le, Int.ofNat_lt, Int.ofNat_le] at hQz); first | trivial | assumption | omega | (simp; done) | (simp; omega) | (simp [*]; done) | ((repeat' (refine And.intro ?_ ?_)) <;> first | trivial | assumption | omega | (simp; done) | (simp; omega) | (simp [*]; done)))))
    | (apply st_mc; (case hop => rfl); (case hg => (simp only [go_sem, *] <;> rfl)); (case hc => (intro hQz; (try simp only [wantB_t, wantB_f, Bool.and_eq_true, Bool.not_eq_true', Bool.not_true, Bool.not_false, and_true, true_and] at hQz); simp only [go_sem, *] <;> rfl)); (case hl => (intro hQz; (try simp only [wantB_t, wantB_f, Bool.and_eq_true, Bool.not_eq_true', Bool.not_true, Bool.not_false, and_true, true_and] at hQz); simp only [go_sem, *] <;> rfl)); (case hn => (intro hQz; (try simp only [wantB_t, wantB_f, Bool.and_eq_true, Bool.not_eq_true', Bool.not_true, Bool.not_false, and_true, true_and] at hQz); simp only [go_sem, *] <;> rfl)); (case hp => intro hQz; first | exact c1 | (have hXz := c1; simp only [go_sem, *] at hXz; exact hXz)))
    | (apply st_c; (case hc => (simp only [go_sem, *] <;> rfl)); (case hl => (simp only [go_sem, *] <;> rfl)); (case hn => (simp only [go_sem, *] <;> rfl)); (case hp => first | exact c1 | (have hXz := c1; simp only [go_sem, *] at hXz; exact hXz)))
    | (apply st_cd; (case hc => (simp only [go_sem, *] <;> rfl)); (case hl => (simp only [go_sem, *] <;> rfl)); (case hn => (simp only [go_sem, *] <;> rfl)); (case hp => first | exact c1 | (have hXz := c1; simp only [go_sem, *] at hXz; exact hXz)); (case hd => first | exact .v _ | exact .any | exact .nils); (case hm => first | decide | (simp; done)))
    | (apply st_gu; (case hv => (simp only [go_sem, *] <;> rfl)))
    | (apply st_g; (case hv => (simp only [go_sem, *] <;> rfl)); all_goals (intro hg; (try simp only [Bool.not_true, Bool.not_false, reduceCtorEq] at hg)))
    | (apply Awp.reg; (case hn => (simp only [List.length_cons, List.length_nil, Nat.reduceAdd] <;> rfl)))
    | (refine Awp.ret ?_; try simp only [go_sem, *])
    | (refine Awp.skip ?_; try simp only [go_sem, *])
    | (refine Awp.exit ?_; try simp only [go_sem, *])
    | refine Awp.scope ?_
    | refine Awp.block ?_
    | (apply Awp.cond; (case hc => (simp only [go_sem, *] <;> rfl)); all_goals (intro hg; (try simp only [Bool.not_true, Bool.not_false, reduceCtorEq] at hg)))
    | refine Awp.seq ?_)
      all_goals repeat' (first | exact Lower.any _ | exact Lower.bool (by first | rfl | (simp only [true_and, Bool.true_and, Bool.false_and, Bool.and_true, Bool.and_false, Bool.true_or, Bool.false_or, reduceIte, Bool.false_eq_true, *]; done) | (simp only [true_and, reduceIte, Bool.false_eq_true, *] <;> rfl) | (simp [true_and]; done) | (simp_all [true_and]; done) | omega) | exact Lower.int (by first | rfl | (simp only [true_and, Bool.true_and, Bool.false_and, Bool.and_true, Bool.and_false, Bool.true_or, Bool.false_or, reduceIte, Bool.false_eq_true, *]; done) | (simp only [true_and, reduceIte, Bool.false_eq_true, *] <;> rfl) | (simp [true_and]; done) | (simp_all [true_and]; done) | omega) | exact Lower.str (by first | rfl | (simp only [true_and, Bool.true_and, Bool.false_and, Bool.and_true, Bool.and_false, Bool.true_or, Bool.false_or, reduceIte, Bool.false_eq_true, *]; done) | (simp only [true_and, reduceIte, Bool.false_eq_true, *] <;> rfl) | (simp [true_and]; done) | (simp_all [true_and]; done) | omega) | exact Lower.ownE (by simp only [go_sem, *] <;> rfl) (by first | rfl | (simp only [true_and, Bool.true_and, Bool.false_and, Bool.and_true, Bool.and_false, Bool.true_or, Bool.false_or, reduceIte, Bool.false_eq_true, *]; done) | (simp only [true_and, reduceIte, Bool.false_eq_true, *] <;> rfl) | (simp [true_and]; done) | (simp_all [true_and]; done) | omega) | exact Lower.nilE (by first | rfl | (simp only [true_and, Bool.true_and, Bool.false_and, Bool.and_true, Bool.and_false, Bool.true_or, Bool.false_or, reduceIte, Bool.false_eq_true, *]; done) | (simp only [true_and, reduceIte, Bool.false_eq_true, *] <;> rfl) | (simp [true_and]; done) | (simp_all [true_and]; done) | omega) | exact Lower.slE' (by first | rfl | (simp only [true_and, Bool.true_and, Bool.false_and, Bool.and_true, Bool.and_false, Bool.true_or, Bool.false_or, reduceIte, Bool.false_eq_true, *]; done) | (simp only [true_and, reduceIte, Bool.false_eq_true, *] <;> rfl) | (simp [true_and]; done) | (simp_all [true_and]; done) | omega) | exact Lower.same _ rfl | refine Lower.aggF ?_ | refine Lower.tupF ?_ | refine All2.cons ?_ ?_ | exact All2.nil)
  · refine fn_pure Tryd.F24 (Nat.le_of_ble_eq_true rfl) ?_; unfold Tryd.ac24
    repeat' (first
    | (apply Awp.sreg; (case hn => (simp only [List.length_cons, List.length_nil, Nat.reduceAdd] <;> rfl)))
    | (apply Awp.sdraw; (case hn => (simp only [List.length_cons, List.length_nil, Nat.reduceAdd] <;> rfl)))
    | (refine st_nil ?_)
    | (apply st_a; (case hc => rfl); (case he => (simp only [go_sem, *] <;> rfl)); (case hu => (simp only [updL_nil, updL_cons] <;> rfl)); (case hp => first | trivial | assumption | omega | (simp; done) | (simp; omega) | (simp [*]; done) | ((repeat' (refine And.intro ?_ ?_)) <;> first | trivial | assumption | omega | (simp; done) | (simp; omega) | (simp [*]; done))))
    | (apply st_m; (case hc => rfl); (case hg => (simp only [go_sem, *] <;> rfl)); (case he => (intro hQz; (try simp only [wantB_t, wantB_f, Bool.and_eq_true, Bool.not_eq_true', Bool.not_true, Bool.not_false, and_true, true_and] at hQz); simp only [go_sem, *] <;> rfl)); (case hp => (intro hQz; (try simp only [wantB_t, wantB_f, Bool.and_eq_true, Bool.not_eq_true', Bool.or_eq_false_iff, decide_eq_true_eq, decide_eq_false_iff_not, beq_iff_eq, beq_eq_false_iff_ne, bne_iff_ne, bne_eq_false_iff_eq, Int.not_lt, Int.not_le, Int.ofNat_lt, Int.ofNat_le] at hQz); first | trivial | assumption | omega | (simp; done) | (simp; omega) | (simp [*]; done) | ((repeat' (refine And.intro ?_ ?_)) <;> first | trivial | assumption | omega | (simp; done) | (simp; omega) | (simp [*]; done)))))
    | (apply st_mc; (case hop => rfl); (case hg => (simp only [go_sem, *] <;> rfl)); (case hc => (intro hQz; (try simp only [wantB_t, wantB_f, Bool.and_eq_true, Bool.not_eq_true', Bool.not_true, Bool.not_false, and_true, true_and] at hQz); simp only [go_sem, *] <;> rfl)); (case hl => (intro hQz; (try simp only [wantB_t, wantB_f, Bool.and_eq_true, Bool.not_eq_true', Bool.not_true, Bool.not_false, and_true, true_and] at hQz); simp only [go_sem, *] <;> rfl)); (case hn => (intro hQz; (try simp only [wantB_t, wantB_f, Bool.and_eq_true, Bool.not_eq_true', Bool.not_true, Bool.not_false, and_true, true_and] at hQz); simp only [go_sem, *] <;> rfl)); (case hp => intro hQz; first | exact c0 | (have hXz := c0; simp only [go_sem, *] at hXz; exact hXz)))
    | (apply st_c; (case hc => (simp only [go_sem, *] <;> rfl)); (case hl => (simp only [go_sem, *] <;> rfl)); (case hn => (simp only [go_sem, *] <;> rfl)); (case hp => first | exact c0 | (have hXz := c0; simp only [go_sem, *] at hXz; exact hXz)))
    | (apply st_cd; (case hc => (simp only [go_sem, *] <;> rfl)); (case hl => (simp only [go_sem, *] <;> rfl)); (case hn => (simp only [go_sem, *] <;> rfl)); (case hp => first | exact c0 | (have hXz := c0; simp only [go_sem, *] at hXz; exact hXz)); (case hd => first | exact .v _ | exact .any | exact .nils); (case hm => first | decide | (simp; done)))
    | (apply st_gu; (case hv => (simp only [go_sem, *] <;> rfl)))
    | (apply st_g; (case hv => (simp only [go_sem, *] <;> rfl)); all_goals (intro hg; (try simp only [Bool.not_true, Bool.not_false, reduceCtorEq] at hg)))
    | (apply Awp.reg; (case hn => (simp only [List.length_cons, List.length_nil, Nat.reduceAdd] <;> rfl)))
    | (refine Awp.ret ?_; try simp only [go_sem, *])
    | (refine Awp.skip ?_; try simp only [go_sem, *])
    | (refine Awp.exit ?_; try simp only [go_sem, *])
    | refine Awp.scope ?_
    | refine Awp.block ?_
    | (apply Awp.cond; (case hc => (simp only [go_sem, *] <;> rfl)); all_goals (intro hg; (try simp only [Bool.not_true, Bool.not_false, reduceCtorEq] at hg)))
    | refine Awp.seq ?_)
    all_goals repeat' (first | exact Lower.any _ | exact Lower.bool (by first | rfl | (simp only [true_and, Bool.true_and, Bool.false_and, Bool.and_true, Bool.and_false, Bool.true_or, Bool.false_or, reduceIte, Bool.false_eq_true, *]; done) | (simp only [true_and, reduceIte, Bool.false_eq_true, *] <;> rfl) | (simp [true_and]; done) | (simp_all [true_and]; done) | omega) | exact Lower.int (by first | rfl | (simp only [true_and, Bool.true_and, Bool.false_and, Bool.and_true, Bool.and_false, Bool.true_or, Bool.false_or, reduceIte, Bool.false_eq_true, *]; done) | (simp only [true_and, reduceIte, Bool.false_eq_true, *] <;> rfl) | (simp [true_and]; done) | (simp_all [true_and]; done) | omega) | exact Lower.str (by first | rfl | (simp only [true_and, Bool.true_and, Bool.false_and, Bool.and_true, Bool.and_false, Bool.true_or, Bool.false_or, reduceIte, Bool.false_eq_true, *]; done) | (simp only [true_and, reduceIte, Bool.false_eq_true, *] <;> rfl) | (simp [true_and]; done) | (simp_all [true_and]; done) | omega) | exact Lower.ownE (by simp only [go_sem, *] <;> rfl) (by first | rfl | (simp only [true_and, Bool.true_and, Bool.false_and, Bool.and_true, Bool.and_false, Bool.true_or, Bool.false_or, reduceIte, Bool.false_eq_true, *]; done) | (simp only [true_and, reduceIte, Bool.false_eq_true, *] <;> rfl) | (simp [true_and]; done) | (simp_all [true_and]; done) | omega) | exact Lower.nilE (by first | rfl | (simp only [true_and, Bool.true_and, Bool.false_and, Bool.and_true, Bool.and_false, Bool.true_or, Bool.false_or, reduceIte, Bool.false_eq_true, *]; done) | (simp only [true_and, reduceIte, Bool.false_eq_true, *] <;> rfl) | (simp [true_and]; done) | (simp_all [true_and]; done) | omega) | exact Lower.slE' (by first | rfl | (simp only [true_and, Bool.true_and, Bool.false_and, Bool.and_true, Bool.and_false, Bool.true_or, Bool.false_or, reduceIte, Bool.false_eq_true, *]; done) | (simp only [true_and, reduceIte, Bool.false_eq_true, *] <;> rfl) | (simp [true_and]; done) | (simp_all [true_and]; done) | omega) | exact Lower.same _ rfl | refine Lower.aggF ?_ | refine Lower.tupF ?_ | refine All2.cons ?_ ?_ | exact All2.nil)
def six (b0 b1 b2 b3 b4 b5 : Bool) : List AV := [.v (.bool b0), .v (.bool b1), .v (.bool b2), .v (.bool b3), .v (.bool b4), .v (.bool b5)]
theorem needed_ok (b0 b1 b2 b3 b4 b5 : Bool) (s : Sm) : Pure Tryd.prog 25 [.agg (six b0 b1 b2 b3 b4 b5), s.av] (.v (.bool (neededB [b0, b1, b2, b3, b4, b5] s))) := by
  have hm := methods_ok s.kind s.cls
  have hlen := methods_len s.kind s.cls
  have hrg := methods_range s.kind s.cls
  unfold neededB six
  generalize methods s.kind s.cls = l at *
  refine fn_pure Tryd.F25 (Nat.le_of_ble_eq_true rfl) ?_; unfold Tryd.ac25
  repeat' (first
    | (apply Awp.sreg; (case hn => (simp only [List.length_cons, List.length_nil, Nat.reduceAdd] <;> rfl)))
    | (apply Awp.sdraw; (case hn => (simp only [List.length_cons, List.length_nil, Nat.reduceAdd] <;> rfl)))
    | (refine st_nil ?_)
    | (apply st_a; (case hc => rfl); (case he => (simp only [go_sem, *] <;> rfl)); (case hu => (simp only [updL_nil, updL_cons] <;> rfl)); (case hp => first | trivial | assumption | omega | (simp; done) | (simp; omega) | (simp [*]; done) | ((repeat' (refine And.intro ?_ ?_)) <;> first | trivial | assumption | omega | (simp; done) | (simp; omega) | (simp [*]; done))))
    | (apply st_m; (case hc => rfl); (case hg => (simp only [go_sem, *] <;> rfl)); (case he => (intro hQz; (try simp only [wantB_t, wantB_f, Bool.and_eq_true, Bool.not_eq_true', Bool.not_true, Bool.not_false, and_true, true_and] at hQz); simp only [go_sem, *] <;> rfl)); (case hp => (intro hQz; (try simp only [wantB_t, wantB_f, Bool.and_eq_true, Bool.not_eq_true', Bool.or_eq_false_iff, decide_eq_true_eq, decide_eq_false_iff_not, beq_iff_eq, beq_eq_false_iff_ne, bne_iff_ne, bne_eq_false_iff_eq, Int.not_lt, Int.not_le, Int.ofNat_lt, Int.ofNat_le] at hQz); first | trivial | assumption | omega | (simp; done) | (simp; omega) | (simp [*]; done) | ((repeat' (refine And.intro ?_ ?_)) <;> first | trivial | assumption | omega | (simp; done) | (simp; omega) | (simp [*]; done)))))
    | (apply st_mc; (case hop => rfl); (case hg => (simp only [go_sem, *] <;> rfl)); (case hc => (intro hQz; (try simp only [wantB_t, wantB_f, Bool.and_eq_true, Bool.not_eq_true', Bool.not_true, Bool.not_false, and_true, true_and] at hQz); simp only [go_sem, *] <;> rfl)); (case hl => (intro hQz; (try simp only [wantB_t, wantB_f, Bool.and_eq_true, Bool.not_eq_true', Bool.not_true, Bool.not_false, and_true, true_and] at hQz); simp only [go_sem, *] <;> rfl)); (case hn => (intro hQz; (try simp only [wantB_t, wantB_f, Bool.and_eq_true, Bool.not_eq_true', Bool.not_true, Bool.not_false, and_true, true_and] at hQz); simp only [go_sem, *] <;> rfl)); (case hp => intro hQz; first | exact hm | (have hXz := hm; simp only [go_sem, *] at hXz; exact hXz)))
    | (apply st_c; (case hc => (simp only [go_sem, *] <;> rfl)); (case hl => (simp only [go_sem, *] <;> rfl)); (case hn => (simp only [go_sem, *] <;> rfl)); (case hp => first | exact hm | (have hXz := hm; simp only [go_sem, *] at hXz; exact hXz)))
    | (apply st_cd; (case hc => (simp only [go_sem, *] <;> rfl)); (case hl => (simp only [go_sem, *] <;> rfl)); (case hn => (simp only [go_sem, *] <;> rfl)); (case hp => first | exact hm | (have hXz := hm; simp only [go_sem, *] at hXz; exact hXz)); (case hd => first | exact .v _ | exact .any | exact .nils); (case hm => first | decide | (simp; done)))
    | (apply st_gu; (case hv => (simp only [go_sem, *] <;> rfl)))
    | (apply st_g; (case hv => (simp only [go_sem, *] <;> rfl)); all_goals (intro hg; (try simp only [Bool.not_true, Bool.not_false, reduceCtorEq] at hg); (try have hg' := hg); (try simp only [decide_eq_true_eq, decide_eq_false_iff_not, Bool.and_eq_true, Bool.or_eq_false_iff, bne_iff_ne, bne_eq_false_iff_eq, beq_iff_eq, beq_eq_false_iff_ne, Int.not_lt, Int.not_le, Int.ofNat_lt, Int.ofNat_le, Int.natCast_inj] at hg')))
    | (apply Awp.reg; (case hn => (simp only [List.length_cons, List.length_nil, Nat.reduceAdd] <;> rfl)))
    | (refine Awp.ret ?_; try simp only [go_sem, *])
    | (refine Awp.skip ?_; try simp only [go_sem, *])
    | (refine Awp.exit ?_; try simp only [go_sem, *])
    | refine Awp.scope ?_
    | refine Awp.block ?_
    | (apply Awp.cond; (case hc => (simp only [go_sem, *] <;> rfl)); all_goals (intro hg; (try simp only [Bool.not_true, Bool.not_false, reduceCtorEq] at hg); (try have hg' := hg); (try simp only [decide_eq_true_eq, decide_eq_false_iff_not, Bool.and_eq_true, Bool.or_eq_false_iff, bne_iff_ne, bne_eq_false_iff_eq, beq_iff_eq, beq_eq_false_iff_ne, Int.not_lt, Int.not_le, Int.ofNat_lt, Int.ofNat_le, Int.natCast_inj] at hg')))
    | refine Awp.seq ?_)
  clear hm
  refine Awp.loop (fun i : Nat => i ≤ l.length ∧ ∀ j, j < i → [b0, b1, b2, b3, b4, b5].getD (l.getD j 0).toNat false = true) 50 (fun i => mkS [(2, .bp 0 0), (5, .sl (ints l)), (6, .v (.int .i64 i))] [(0, .box [.v (.bool b0), .v (.bool b1), .v (.bool b2), .v (.bool b3), .v (.bool b4), .v (.bool b5)])]) (fun i => l.length - i) 0 (by simp) ?_ ?_
  · (apply Ghost.mk [] []; (case hdead => rfl); (case hinj => rfl); (case hV => (simp only [go_sem, *]) <;> (repeat' (first | refine And.intro ?_ ?_ | exact View.int (by first | rfl | omega | (simp; done) | (rw [wrap_i64] <;> (try simp only [Int.natCast_add]) <;> omega) | (simp [*]; done)) | exact View.bool (by first | rfl | omega | (simp; done) | (rw [wrap_i64] <;> (try simp only [Int.natCast_add]) <;> omega) | (simp [*]; done)) | exact View.str (by first | rfl | omega | (simp; done) | (rw [wrap_i64] <;> (try simp only [Int.natCast_add]) <;> omega) | (simp [*]; done)) | exact View.slE (by first | rfl | omega | (simp; done) | (rw [wrap_i64] <;> (try simp only [Int.natCast_add]) <;> omega) | (simp [*]; done)) | exact .any _ | exact .bp rfl (by decide) | exact .own rfl (by decide) | exact .ep rfl (by decide)))); (case hB => (simp only [go_sem, *]) <;> (repeat' (first | refine And.intro ?_ ?_ | decide | exact ⟨_, rfl, .rowE (by first | rfl | omega | (simp; done) | (rw [wrap_i64] <;> (try simp only [Int.natCast_add]) <;> omega) | (simp [*]; done))⟩ | exact ⟨_, rfl, .iterE (by first | rfl | omega | (simp; done) | (rw [wrap_i64] <;> (try simp only [Int.natCast_add]) <;> omega) | (simp [*]; done))⟩ | exact ⟨_, rfl, BView.boxF rfl⟩))))
  · intro i ⟨hi, hj⟩
    by_cases hlt : i < l.length
    · have hlt' : (i : Int) < l.length := by omega
      have hmem : l.getD i 0 ∈ l := by rw [List.getD_eq_getElem?_getD, List.getElem?_eq_getElem hlt]; exact List.getElem_mem hlt
      obtain ⟨r1, r2⟩ := hrg _ hmem
      have hc : l.getD i 0 = 1 ∨ l.getD i 0 = 2 ∨ l.getD i 0 = 3 ∨ l.getD i 0 = 4 := by omega
      rcases hc with hc | hc | hc | hc
      all_goals (
        have hlo : ¬ l.getD i 0 < 0 := by omega
        have hhi : ¬ (5 : Int) < l.getD i 0 := by omega
        clear r1 r2
        repeat' (first
    | (apply Awp.sreg; (case hn => (simp only [List.length_cons, List.length_nil, Nat.reduceAdd] <;> rfl)))
    | (apply Awp.sdraw; (case hn => (simp only [List.length_cons, List.length_nil, Nat.reduceAdd] <;> rfl)))
    | (refine st_nil ?_)
    | (apply st_a; (case hc => rfl); (case he => (simp only [go_sem, *] <;> rfl)); (case hu => (simp only [updL_nil, updL_cons] <;> rfl)); (case hp => first | trivial | assumption | omega | (simp; done) | (simp; omega) | (simp [*]; done) | ((repeat' (refine And.intro ?_ ?_)) <;> first | trivial | assumption | omega | (simp; done) | (simp; omega) | (simp [*]; done))))
    | (apply st_m; (case hc => rfl); (case hg => (simp only [go_sem, *] <;> rfl)); (case he => (intro hQz; (try simp only [wantB_t, wantB_f, Bool.and_eq_true, Bool.not_eq_true', Bool.not_true, Bool.not_false, and_true, true_and] at hQz); simp only [go_sem, *] <;> rfl)); (case hp => (intro hQz; (try simp only [wantB_t, wantB_f, Bool.and_eq_true, Bool.not_eq_true', Bool.or_eq_false_iff, decide_eq_true_eq, decide_eq_false_iff_not, beq_iff_eq, beq_eq_false_iff_ne, bne_iff_ne, bne_eq_false_iff_eq, Int.not_lt, Int.not_le, Int.ofNat_lt, Int.ofNat_le] at hQz); first | trivial | assumption | omega | (simp; done) | (simp; omega) | (simp [*]; done) | ((repeat' (refine And.intro ?_ ?_)) <;> first | trivial | assumption | omega | (simp; done) | (simp; omega) | (simp [*]; done)))))
    | (apply st_gu; (case hv => (simp only [go_sem, *] <;> rfl)))
    | (apply st_g; (case hv => (simp only [go_sem, *] <;> rfl)); all_goals (intro hg; (try simp only [Bool.not_true, Bool.not_false, reduceCtorEq] at hg); (try have hg' := hg); (try simp only [decide_eq_true_eq, decide_eq_false_iff_not, Bool.and_eq_true, Bool.or_eq_false_iff, bne_iff_ne, bne_eq_false_iff_eq, beq_iff_eq, beq_eq_false_iff_ne, Int.not_lt, Int.not_le, Int.ofNat_lt, Int.ofNat_le, Int.natCast_inj] at hg')))
    | (apply Awp.reg; (case hn => (simp only [List.length_cons, List.length_nil, Nat.reduceAdd] <;> rfl)))
    | (refine Awp.ret ?_; try simp only [go_sem, *])
    | (refine Awp.skip ?_; try simp only [go_sem, *])
    | (refine Awp.exit ?_; try simp only [go_sem, *])
    | refine Awp.scope ?_
    | refine Awp.block ?_
    | (apply Awp.cond; (case hc => (simp only [go_sem, *] <;> rfl)); all_goals (intro hg; (try simp only [Bool.not_true, Bool.not_false, reduceCtorEq] at hg); (try have hg' := hg); (try simp only [decide_eq_true_eq, decide_eq_false_iff_not, Bool.and_eq_true, Bool.or_eq_false_iff, bne_iff_ne, bne_eq_false_iff_eq, beq_iff_eq, beq_eq_false_iff_ne, Int.not_lt, Int.not_le, Int.ofNat_lt, Int.ofNat_le, Int.natCast_inj] at hg')))
    | refine Awp.seq ?_))
      all_goals first
        | (refine Lower.bool ?_
           symm
           rw [List.all_eq_false]
           refine ⟨_, hmem, ?_⟩
           rw [hc]
           simpa using hg)
        | (refine ⟨i + 1, ⟨by omega, ltSucc hj (by rw [hc]; simpa using hg)⟩, by omega, ?_⟩
           (apply Ghost.mk [] []; (case hdead => rfl); (case hinj => rfl); (case hV => (simp only [go_sem, *]) <;> (repeat' (first | refine And.intro ?_ ?_ | exact View.int (by first | rfl | omega | (simp; done) | (rw [wrap_i64] <;> (try simp only [Int.natCast_add]) <;> omega) | (simp [*]; done)) | exact View.bool (by first | rfl | omega | (simp; done) | (rw [wrap_i64] <;> (try simp only [Int.natCast_add]) <;> omega) | (simp [*]; done)) | exact View.str (by first | rfl | omega | (simp; done) | (rw [wrap_i64] <;> (try simp only [Int.natCast_add]) <;> omega) | (simp [*]; done)) | exact View.slE (by first | rfl | omega | (simp; done) | (rw [wrap_i64] <;> (try simp only [Int.natCast_add]) <;> omega) | (simp [*]; done)) | exact .any _ | exact .bp rfl (by decide) | exact .own rfl (by decide) | exact .ep rfl (by decide)))); (case hB => (simp only [go_sem, *]) <;> (repeat' (first | refine And.intro ?_ ?_ | decide | exact ⟨_, rfl, .rowE (by first | rfl | omega | (simp; done) | (rw [wrap_i64] <;> (try simp only [Int.natCast_add]) <;> omega) | (simp [*]; done))⟩ | exact ⟨_, rfl, .iterE (by first | rfl | omega | (simp; done) | (rw [wrap_i64] <;> (try simp only [Int.natCast_add]) <;> omega) | (simp [*]; done))⟩ | exact ⟨_, rfl, BView.boxF rfl⟩)))))
    · have hlt' : ¬ (i : Int) < l.length := by omega
      repeat' (first
    | (apply Awp.sreg; (case hn => (simp only [List.length_cons, List.length_nil, Nat.reduceAdd] <;> rfl)))
    | (apply Awp.sdraw; (case hn => (simp only [List.length_cons, List.length_nil, Nat.reduceAdd] <;> rfl)))
    | (refine st_nil ?_)
    | (apply st_a; (case hc => rfl); (case he => (simp only [go_sem, *] <;> rfl)); (case hu => (simp only [updL_nil, updL_cons] <;> rfl)); (case hp => first | trivial | assumption | omega | (simp; done) | (simp; omega) | (simp [*]; done) | ((repeat' (refine And.intro ?_ ?_)) <;> first | trivial | assumption | omega | (simp; done) | (simp; omega) | (simp [*]; done))))
    | (apply st_m; (case hc => rfl); (case hg => (simp only [go_sem, *] <;> rfl)); (case he => (intro hQz; (try simp only [wantB_t, wantB_f, Bool.and_eq_true, Bool.not_eq_true', Bool.not_true, Bool.not_false, and_true, true_and] at hQz); simp only [go_sem, *] <;> rfl)); (case hp => (intro hQz; (try simp only [wantB_t, wantB_f, Bool.and_eq_true, Bool.not_eq_true', Bool.or_eq_false_iff, decide_eq_true_eq, decide_eq_false_iff_not, beq_iff_eq, beq_eq_false_iff_ne, bne_iff_ne, bne_eq_false_iff_eq, Int.not_lt, Int.not_le, Int.ofNat_lt, Int.ofNat_le] at hQz); first | trivial | assumption | omega | (simp; done) | (simp; omega) | (simp [*]; done) | ((repeat' (refine And.intro ?_ ?_)) <;> first | trivial | assumption | omega | (simp; done) | (simp; omega) | (simp [*]; done)))))
    | (apply st_gu; (case hv => (simp only [go_sem, *] <;> rfl)))
    | (apply st_g; (case hv => (simp only [go_sem, *] <;> rfl)); all_goals (intro hg; (try simp only [Bool.not_true, Bool.not_false, reduceCtorEq] at hg); (try have hg' := hg); (try simp only [decide_eq_true_eq, decide_eq_false_iff_not, Bool.and_eq_true, Bool.or_eq_false_iff, bne_iff_ne, bne_eq_false_iff_eq, beq_iff_eq, beq_eq_false_iff_ne, Int.not_lt, Int.not_le, Int.ofNat_lt, Int.ofNat_le, Int.natCast_inj] at hg')))
    | (apply Awp.reg; (case hn => (simp only [List.length_cons, List.length_nil, Nat.reduceAdd] <;> rfl)))
    | (refine Awp.ret ?_; try simp only [go_sem, *])
    | (refine Awp.skip ?_; try simp only [go_sem, *])
    | (refine Awp.exit ?_; try simp only [go_sem, *])
    | refine Awp.scope ?_
    | refine Awp.block ?_
    | (apply Awp.cond; (case hc => (simp only [go_sem, *] <;> rfl)); all_goals (intro hg; (try simp only [Bool.not_true, Bool.not_false, reduceCtorEq] at hg); (try have hg' := hg); (try simp only [decide_eq_true_eq, decide_eq_false_iff_not, Bool.and_eq_true, Bool.or_eq_false_iff, bne_iff_ne, bne_eq_false_iff_eq, beq_iff_eq, beq_eq_false_iff_ne, Int.not_lt, Int.not_le, Int.ofNat_lt, Int.ofNat_le, Int.natCast_inj] at hg')))
    | refine Awp.seq ?_)
      refine Lower.bool ?_
      symm
      rw [List.all_eq_true]
      intro m hm
      obtain ⟨j, hjl, e⟩ := List.getElem_of_mem hm
      have := hj j (by omega)
      have e2 : l.getD j 0 = m := by rw [List.getD_eq_getElem?_getD, List.getElem?_eq_getElem hjl, Option.getD_some, e]
      rw [e2] at this
      exact this
end Go.Proofs
end
