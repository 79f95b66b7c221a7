import Derived.Test.YtnpaijljdkpiiaaGreatDoorPCC
import Derived.Shelf.SlicesE.Clone
import Derived.RangeFuncGives
import Derived.Maps.AppendAt
import Derived.Sort.Grow
import Derived.Below
import Derived.Shelf.Abstract
import Derived.WalkKit
import Derived.OwnWalkIn
import Derived.TacticsInMore
import Derived.RegionIn
import Derived.LoopNIn
import Derived.LoopIn
import Derived.Test.YtnpaijljdkpiiaaGreatDoorProg
import Derived.Sort.Walk0
import Derived.Shelf.SlSortCmp.NoneTotal
import Derived.Ground.SlsfProg
set_option linter.unusedVariables false
set_option linter.unusedSimpArgs false
namespace Go.Proofs
open Go Go.Ab Go.RowKit
set_option maxHeartbeats 1000000
theorem compact_len (l : List Int) : (Lib.compact l).length ≤ l.length := by
  unfold Lib.compact Lib.compactUpTo
  rw [List.length_map]
  exact Nat.le_trans (List.length_filter_le _ _) (by simp)
theorem compact_cc (l : List Int) (b nm : Nat) (e : TypeId) (hnb : nm ≠ b) (hl : l.length < 1000000) : CallC Tryz.prog 78 [.own b] [(b, .row (ints l) 1 e)] nm (.own nm) [(b, none), (nm, some (.row (ints (Lib.compact l)) 1 e))] := by
  refine ⟨⟨_, Tryz.func78, by kernel_rfl, by kernel_rfl⟩, fun prov β w cs hn hb hi hv => ?_⟩
  have hlk : ∀ n, updL (listH [(b, Blk.row (ints l) 1 e)]) [(b, none), (nm, some (Blk.row (ints (Lib.compact l)) 1 e))] n = if n = nm then some (.row (ints (Lib.compact l)) 1 e) else none := by
    intro n; simp only [updL, upd, listH]; split
    · rfl
    · split <;> rfl
  have hB := hb b (.row (ints l) 1 e) (by simp [listH])
  obtain ⟨xs, hf⟩ := hB
  obtain rfl := fits_ints hf
  obtain ⟨hlen, hv⟩ := hv
  match cs, hlen with
  | [c], _ =>
  have h1 := hv 0 (by simp)
  simp only [av_zero, cv, List.getD_cons_zero] at h1
  obtain ⟨rfl, _⟩ := h1.own_inv
  have hgr : ∀ c', Grows β (upd β nm c') := fun c' k hk => by
    unfold upd; split
    · rename_i h; subst h; exact absurd hn hk
    · rfl
  have tail : ∀ w' c', (∃ a n cap, c' = .slice a n cap) → w.grownBy w' (blkOf (β b)) → RowRep w' e 1 c' (Lib.compact l).length ((Lib.compact l).map (Value.int .i64)) → (∀ g, blkOf c' = some g → blkOf (β b) = some g) →
      ∃ c β', Ending.returned c' = .returned c ∧ w'.os = w.os ∧ w'.tape = w.tape ∧ w'.output = w.output ∧ w.heap.size ≤ w'.heap.size ∧ Grows β β' ∧ (∀ n, n ≠ nm → β' n = β n) ∧
      (∀ g, g < w.heap.size → (∀ n b', listH [(b, Blk.row (ints l) 1 e)] n = some b' → n ∈ [(b, none), (nm, some (Blk.row (ints (Lib.compact l)) 1 e))].map (·.1) → blkOf (β n) ≠ some g) → w'.heap[g]? = w.heap[g]?) ∧
      SimV (stb (fun g => prov g ∨ w.heap.size ≤ g) w' β' (updL (listH [(b, Blk.row (ints l) 1 e)]) [(b, none), (nm, some (Blk.row (ints (Lib.compact l)) 1 e))])) β' w' (.own nm) c ∧
      (∀ n b', updL (listH [(b, Blk.row (ints l) 1 e)]) [(b, none), (nm, some (Blk.row (ints (Lib.compact l)) 1 e))] n = some b' → n ∈ [(b, none), (nm, some (Blk.row (ints (Lib.compact l)) 1 e))].map (·.1) → BlkRep (stb (fun g => prov g ∨ w.heap.size ≤ g) w' β' (updL (listH [(b, Blk.row (ints l) 1 e)]) [(b, none), (nm, some (Blk.row (ints (Lib.compact l)) 1 e))])) β' w' b' (β' n) ∧
        ∀ g, blkOf (β' n) = some g → w.heap.size ≤ g ∨ ∃ m b', listH [(b, Blk.row (ints l) 1 e)] m = some b' ∧ m ∈ [(b, none), (nm, some (Blk.row (ints (Lib.compact l)) 1 e))].map (·.1) ∧ blkOf (β m) = some g) ∧
      Inj β' (updL (listH [(b, Blk.row (ints l) 1 e)]) [(b, none), (nm, some (Blk.row (ints (Lib.compact l)) 1 e))]) := by
    intro w' c' ⟨a, n0, cap, hc'⟩ hg hr hbk
    refine ⟨_, upd β nm c', rfl, hg.os, hg.tape, hg.output, hg.size, hgr c', fun n hne => by simp [upd, hne], fun g hgl hno => ?_, ?_, fun n b' hb' _ => ?_, ?_⟩
    · exact hg.block g hgl (fun e' => hno b (.row (ints l) 1 e) (by simp [listH]) (by simp) e'.symm)
    · subst hc'; exact .own nm (by simp [upd])
    · rw [hlk] at hb'
      split at hb'
      · rename_i hnn; subst hnn
        simp at hb'; subst hb'
        have hu : upd β n c' n = c' := by simp [upd]
        rw [hu]
        exact ⟨⟨_, ints_fits hr⟩, fun g hgb => .inr ⟨b, .row (ints l) 1 e, by simp [listH], by simp, hbk g hgb⟩⟩
      · cases hb'
    · intro n m b1 b2 g h1 h2 _ _
      rw [hlk] at h1 h2
      split at h1
      · split at h2
        · simp_all
        · cases h2
      · cases h1
  rcases hf.row with ⟨a, hc, h0, hx⟩ | ⟨g, cap, hc, h0, hrow⟩
  · have hnil : l = [] := by rw [ints_len] at h0; exact List.eq_nil_of_length_eq_zero h0
    subst hnil
    rw [hc]
    refine (Tryz.slices_Compact_int_empty a 0 w).mono fun e' w' ⟨he, hw⟩ => ?_
    subst he; subst hw
    exact tail w' _ ⟨_, _, _, rfl⟩ ⟨rfl, rfl, rfl, Nat.le_refl _, fun _ _ _ => rfl⟩ (.inl ⟨a, rfl, rfl, rfl⟩) (fun g hg => by rw [hc]; exact hg)
  · rcases hrow.2 with ⟨h', _⟩ | ⟨g', cap', cur, h', _, hg, hn1, hn2, hn3, hn4⟩
    · rw [hc] at h'; cases h'
    · rw [hc] at h'
      simp only [Value.slice.injEq, Option.some.injEq, Addr.mk.injEq, and_true, true_and] at h'
      obtain ⟨rfl, rfl⟩ := h'
      rw [ints_len] at hn1 hn4 hc
      rw [Nat.mul_one] at hn4
      rw [hc]
      have hcl : (Lib.compact l).length ≤ l.length := compact_len l
      refine (Tryz.slices_Compact_int g 0 cap l w (holds_of_blockI hg hn4) (by omega) hn1).mono fun e' w' ⟨he, q, hw⟩ => ?_
      subst he
      have hw2 : w' = Sort.grow (Sort.putRow (Value.int .i64) (Sort.ahead w q) g 0 (Lib.compact l ++ List.replicate (l.length - (Lib.compact l).length) 0).toArray) #[] := by rw [hw, Sort.grow_empty]
      subst hw2
      have hbk : blkOf (β b) = some g := by rw [hc]; simp [blkOf]; omega
      refine tail _ _ ⟨_, _, _, rfl⟩ (by rw [hbk]; exact grownBy_sortedI _) (.inr ⟨g, cap, rfl, h0, by simp, .inr ⟨g, cap, _, rfl, Nat.zero_le _, heap_sortedI _ hg, by omega, hn2, by simp [Sort.putCells, hn3], ?_⟩⟩) (fun g' hg' => ?_)
      · rw [Nat.mul_one]
        have ht := take_putCellsI cur (Lib.compact l ++ List.replicate (l.length - (Lib.compact l).length) 0) (by simp; omega)
        have ht2 := congrArg (List.take (Lib.compact l).length) ht
        rw [List.take_take, Nat.min_eq_left (by simp)] at ht2
        rw [ht2, List.map_append]
        exact List.take_left' (by simp)
      · rw [hbk]
        simp only [blkOf] at hg'
        split at hg'
        · cases hg'
        · exact hg'
end Go.Proofs
namespace Go.Ab

def bitsOf (acc : List Nat) : List Nat → Nat
  | [] => 0
  | j :: r => 2 ^ j ||| acc.getD j 0 ||| bitsOf acc r
def masks : List (List Nat) → List Nat → List Nat
  | [], acc => acc
  | d :: r, acc => masks r (acc ++ [bitsOf acc d])
def chk (e : Ent) (m : Nat) : List Ent → Nat → Bool
  | [], _ => true
  | x :: r, j => (m.testBit j || freeE x e) && chk e m r (j + 1)
def chkAll : List Ent → List Ent → List Nat → Bool
  | _, [], _ => true
  | pre, e :: r, m :: ms => chk e m pre 0 && chkAll (pre ++ [e]) r ms
  | _, _ :: _, [] => false
def drawOk' (deps : List (List Nat)) (es : List Ent) : Bool := depsLow deps 0 && chkAll [] es (masks deps [])

theorem bitsOf_spec {acc : List Nat} {accL : List (List Nat)} (h : ∀ i j, (acc.getD i 0).testBit j = true → j ∈ accL.getD i []) : ∀ (d : List Nat) (j : Nat), (bitsOf acc d).testBit j = true → j ∈ d ++ d.flatMap fun k => accL.getD k []
  | [], j, hj => by simp [bitsOf] at hj
  | k :: r, j, hj => by
    simp only [bitsOf, Nat.testBit_or, Bool.or_eq_true] at hj
    simp only [List.mem_append, List.mem_cons, List.flatMap_cons]
    rcases hj with (hj | hj) | hj
    · rw [Nat.testBit_two_pow] at hj
      exact .inl (.inl (by simpa using (of_decide_eq_true hj).symm))
    · exact .inr (.inl (h k j hj))
    · rcases List.mem_append.1 (bitsOf_spec h r j hj) with h1 | h1
      · exact .inl (.inr h1)
      · exact .inr (.inr h1)

theorem masks_spec : ∀ (deps : List (List Nat)) (acc : List Nat) (accL : List (List Nat)), acc.length = accL.length → (∀ i j, (acc.getD i 0).testBit j = true → j ∈ accL.getD i []) →
    ∀ i j, ((masks deps acc).getD i 0).testBit j = true → j ∈ (befs deps accL).getD i []
  | [], _, _, _, h => h
  | d :: r, acc, accL, hl, h => by
    refine masks_spec r _ _ (by simp [hl]) fun i j hj => ?_
    simp only [List.getD_eq_getElem?_getD] at hj ⊢
    by_cases hi : i < acc.length
    · rw [List.getElem?_append_left hi] at hj
      rw [List.getElem?_append_left (by omega)]
      have := h i j (by simpa [List.getD_eq_getElem?_getD] using hj)
      simpa [List.getD_eq_getElem?_getD] using this
    · by_cases e : i = acc.length
      · subst e
        simp only [List.getElem?_append_right (Nat.le_refl _), Nat.sub_self, List.getElem?_cons_zero, Option.getD_some] at hj
        rw [hl, List.getElem?_append_right (Nat.le_refl _)]
        simp only [Nat.sub_self, List.getElem?_cons_zero, Option.getD_some]
        have := bitsOf_spec h d j hj
        simpa [List.getD_eq_getElem?_getD] using this
      · rw [List.getElem?_eq_none (by simp; omega)] at hj
        simp at hj

theorem chk_spec {e : Ent} {m : Nat} : ∀ (pre : List Ent) (o : Nat), chk e m pre o = true → ∀ j, j < pre.length → (m.testBit (o + j) || freeE (pre.getD j default) e) = true
  | x :: r, o, h, j, hj => by
    simp only [chk, Bool.and_eq_true] at h
    match j with
    | 0 => exact h.1
    | j + 1 =>
      have := chk_spec r (o + 1) h.2 j (by simpa using hj)
      rwa [show o + 1 + j = o + (j + 1) by omega] at this

theorem chkAll_spec : ∀ (es pre : List Ent) (ms : List Nat), chkAll pre es ms = true → ∀ i, i < es.length → ∀ j, j < pre.length + i →
    ((ms.getD i 0).testBit j || freeE ((pre ++ es).getD j default) (es.getD i default)) = true
  | e :: r, pre, m :: ms, h, i, hi, j, hj => by
    simp only [chkAll, Bool.and_eq_true] at h
    match i with
    | 0 =>
      have := chk_spec pre 0 h.1 j (by omega)
      rw [Nat.zero_add] at this
      have e1 : (pre ++ e :: r).getD j default = pre.getD j default := by
        simp only [List.getD_eq_getElem?_getD]; rw [List.getElem?_append_left (by omega)]
      rw [e1]
      exact this
    | i + 1 =>
      have := chkAll_spec r (pre ++ [e]) ms h.2 i (by simpa using hi) j (by simp; omega)
      rw [List.append_assoc] at this
      exact this
  | _ :: _, _, [], h, _, _, _, _ => by simp [chkAll] at h

theorem drawOk_of {deps : List (List Nat)} {es : List Ent} (h : drawOk' deps es = true) : drawOk deps es = true := by
  simp only [drawOk', Bool.and_eq_true] at h
  simp only [drawOk, Bool.and_eq_true, List.all_eq_true, List.mem_range]
  refine ⟨h.1, fun i hi j hj => ?_⟩
  have h1 := chkAll_spec es [] _ h.2 i hi j (by simpa using hj)
  rw [List.nil_append] at h1
  rcases Bool.or_eq_true_iff.1 h1 with h2 | h2
  · have := masks_spec deps [] [] rfl (fun i j h => by simp at h) i j h2
    rw [Bool.or_eq_true]
    exact .inl (by simpa using this)
  · rw [Bool.or_eq_true]; exact .inr h2
end Go.Ab
namespace Go.Ab
open Go.Shelf Go.RowKit Go.Lib Go.Proofs
variable {P : Program} {ρ : Ren}

end Go.Ab
namespace Go.Proofs
open Go Go.Ab
set_option maxHeartbeats 4000000
set_option maxRecDepth 100000
attribute [local irreducible] Awp aops aopsL Go.Ab.Pure PureOwn
@[go_sem] theorem Tryz.co50 : Tryz.prog.cellsOf 50 = 3 := by kernel_rfl
@[go_sem] theorem Tryz.ag50 : isAggB Tryz.prog 50 = true := by kernel_rfl
@[go_sem] theorem Tryz.co48 : Tryz.prog.cellsOf 48 = 8 := by kernel_rfl
@[go_sem] theorem Tryz.ag48 : isAggB Tryz.prog 48 = true := by kernel_rfl
structure By where
  nm : ByteArray
  len : Int
  wid : Int
structure Sty where
  item : ByteArray
  bay : ByteArray
  x : Int
  y : Int
  len : Int
  wid : Int
  a : Int
  b : Int
def By.cells (q : By) : List AV := [.v (.string q.nm), .v (.int .i64 q.len), .v (.int .i64 q.wid)]
def By.av (q : By) : AV := .agg q.cells
def Sty.cells (q : Sty) : List AV := [.v (.string q.item), .v (.string q.bay), .v (.int .i64 q.x), .v (.int .i64 q.y), .v (.int .i64 q.len), .v (.int .i64 q.wid), .v (.int .i64 q.a), .v (.int .i64 q.b)]
def Sty.av (q : Sty) : AV := .agg q.cells
attribute [go_sem] By.cells By.av Sty.cells Sty.av
def bys (l : List By) : List (List AV) := l.map By.cells
def stys (l : List Sty) : List (List AV) := l.map Sty.cells
@[go_sem] theorem bys_len (l : List By) : (bys l).length = l.length := by simp [bys]
@[go_sem] theorem stys_len (l : List Sty) : (stys l).length = l.length := by simp [stys]
def zeroBy : By := ⟨⟨#[]⟩, 0, 0⟩
def zeroSty : Sty := ⟨⟨#[]⟩, ⟨#[]⟩, 0, 0, 0, 0, 0, 0⟩
theorem bys_at (l : List By) (i : Nat) (h : i < l.length) : (bys l).getD i [] = (l.getD i zeroBy).cells := by
  simp [bys, List.getD_eq_getElem?_getD, h]
theorem stys_at (l : List Sty) (i : Nat) (h : i < l.length) : (stys l).getD i [] = (l.getD i zeroSty).cells := by
  simp [stys, List.getD_eq_getElem?_getD, h]
theorem stys_one (l : List Sty) : ∀ y ∈ stys l, y.length = 8 := by
  simp [stys, Sty.cells]
theorem bys_one (l : List By) : ∀ y ∈ bys l, y.length = 3 := by
  simp [bys, By.cells]
def idxF {α : Type} (p : α → Bool) (l : List α) : Int := if l.findIdx p < l.length then (l.findIdx p : Int) else -1
theorem idxF_in {α : Type} {p : α → Bool} {l : List α} {d : α} {i : Nat} (h : i < l.length) (hp : p (l.getD i d) = true) (hj : ∀ j, j < i → p (l.getD j d) = false) : idxF p l = i := by
  have e : l.findIdx p = i := by
    rw [List.findIdx_eq h]
    refine ⟨by simpa [List.getD_eq_getElem?_getD, h] using hp, fun j hji => ?_⟩
    have := hj j hji
    have hjl : j < l.length := by omega
    simpa [List.getD_eq_getElem?_getD, hjl] using this
  unfold idxF
  rw [e, if_pos h]
theorem idxF_out {α : Type} {p : α → Bool} {l : List α} {d : α} {i : Nat} (h : l.length ≤ i) (hj : ∀ j, j < i → p (l.getD j d) = false) : idxF p l = -1 := by
  have e : l.findIdx p = l.length := by
    rw [List.findIdx_eq_length]
    intro x hx
    obtain ⟨j, hjl, rfl⟩ := List.getElem_of_mem hx
    have := hj j (by omega)
    simpa [List.getD_eq_getElem?_getD, hjl] using this
  unfold idxF
  rw [e, if_neg (by omega)]
def sideB (n : Int) : Bool := decide (1 ≤ n) && decide (n ≤ 524288)
theorem side_ok (n : Int) : Pure Tryz.prog 49 [.v (.int .i64 n)] (.v (.bool (sideB n))) := by
  refine fn_pure Tryz.F49 (Nat.le_of_ble_eq_true rfl) ?_; unfold Tryz.ac49 AR AM AO
  repeat' (first
 | (apply Awp.sreg; (case hn => (simp only [List.length_cons, List.length_nil, Nat.reduceAdd] <;> rfl)))
 | (refine st_nil ?_)
 | (apply st_a; (case hc => rfl); (case he => (simp only [go_sem, *] <;> rfl)); (case hu => (simp only [updL_nil, updL_cons] <;> rfl)); (case hp => first | trivial))
 | (apply st_m; (case hc => rfl); (case hg => (simp only [go_sem, *] <;> rfl)); (case he => (intro hQz; (try simp only [wantB_t, wantB_f, Bool.and_eq_true, Bool.not_eq_true', Bool.not_true, Bool.not_false, and_true, true_and] at hQz); simp only [go_sem, *] <;> rfl)); (case hp => (intro hQz; (try simp only [wantB_t, wantB_f, Bool.and_eq_true, Bool.not_eq_true', Bool.or_eq_false_iff, decide_eq_true_eq, decide_eq_false_iff_not, beq_iff_eq, beq_eq_false_iff_ne, bne_iff_ne, bne_eq_false_iff_eq, Int.not_lt, Int.not_le, Int.ofNat_lt, Int.ofNat_le] at hQz); first | trivial)))
 | (refine Awp.ret ?_; try simp only [go_sem, *]))
  all_goals repeat' (first | exact Lower.bool (by first | rfl | (simp only [sideB, Bool.true_and, Bool.false_and, Bool.and_true, Bool.and_false, Bool.true_or, Bool.false_or, reduceIte, Bool.false_eq_true, *]; done) | (simp only [sideB, reduceIte, Bool.false_eq_true, *] <;> rfl) | (simp [sideB]; done) | (simp_all [sideB]; done) | omega))
def cutB (a la b lb : Int) : Bool := decide (a < IntKind.i64.wrap (b + lb)) && decide (b < IntKind.i64.wrap (a + la))
theorem cut_ok (a la b lb : Int) : Pure Tryz.prog 89 [.v (.int .i64 a), .v (.int .i64 la), .v (.int .i64 b), .v (.int .i64 lb)] (.v (.bool (cutB a la b lb))) := by
  refine fn_pure Tryz.F89 (Nat.le_of_ble_eq_true rfl) ?_; unfold Tryz.ac89 AR AM AO
  repeat' (first
 | (apply Awp.sreg; (case hn => (simp only [List.length_cons, List.length_nil, Nat.reduceAdd] <;> rfl)))
 | (refine st_nil ?_)
 | (apply st_a; (case hc => rfl); (case he => (simp only [go_sem, *] <;> rfl)); (case hu => (simp only [updL_nil, updL_cons] <;> rfl)); (case hp => first | trivial))
 | (apply st_m; (case hc => rfl); (case hg => (simp only [go_sem, *] <;> rfl)); (case he => (intro hQz; (try simp only [wantB_t, wantB_f, Bool.and_eq_true, Bool.not_eq_true', Bool.not_true, Bool.not_false, and_true, true_and] at hQz); simp only [go_sem, *] <;> rfl)); (case hp => (intro hQz; (try simp only [wantB_t, wantB_f, Bool.and_eq_true, Bool.not_eq_true', Bool.or_eq_false_iff, decide_eq_true_eq, decide_eq_false_iff_not, beq_iff_eq, beq_eq_false_iff_ne, bne_iff_ne, bne_eq_false_iff_eq, Int.not_lt, Int.not_le, Int.ofNat_lt, Int.ofNat_le] at hQz); first | trivial)))
 | (refine Awp.ret ?_; try simp only [go_sem, *]))
  all_goals repeat' (first | exact Lower.bool (by first | rfl | (simp only [cutB, Bool.true_and, Bool.false_and, Bool.and_true, Bool.and_false, Bool.true_or, Bool.false_or, reduceIte, Bool.false_eq_true, *]; done) | (simp only [cutB, reduceIte, Bool.false_eq_true, *] <;> rfl) | (simp [cutB]; done) | (simp_all [cutB]; done) | omega))
def overB (p q : Sty) : Bool := (p.bay.toList == q.bay.toList) && decide (p.a < q.b) && decide (q.a < p.b) && cutB p.x p.len q.x q.len && cutB p.y p.wid q.y q.wid
theorem over_ok (p q : Sty) : Pure Tryz.prog 74 [p.av, q.av] (.v (.bool (overB p q))) := by
  refine fn_pure Tryz.F74 (Nat.le_of_ble_eq_true rfl) ?_; unfold Tryz.ac74 AR AM AO
  repeat' (first
 | (apply Awp.sreg; (case hn => (simp only [List.length_cons, List.length_nil, Nat.reduceAdd] <;> rfl)))
 | (refine st_nil ?_)
 | (apply st_a; (case hc => rfl); (case he => (simp only [go_sem, *] <;> rfl)); (case hu => (simp only [updL_nil, updL_cons] <;> rfl)); (case hp => first | trivial))
 | (apply st_m; (case hc => rfl); (case hg => (simp only [go_sem, *] <;> rfl)); (case he => (intro hQz; (try simp only [wantB_t, wantB_f, Bool.and_eq_true, Bool.not_eq_true', Bool.not_true, Bool.not_false, and_true, true_and] at hQz); simp only [go_sem, *] <;> rfl)); (case hp => (intro hQz; (try simp only [wantB_t, wantB_f, Bool.and_eq_true, Bool.not_eq_true', Bool.or_eq_false_iff, decide_eq_true_eq, decide_eq_false_iff_not, beq_iff_eq, beq_eq_false_iff_ne, bne_iff_ne, bne_eq_false_iff_eq, Int.not_lt, Int.not_le, Int.ofNat_lt, Int.ofNat_le] at hQz); first | trivial)))
 | (apply st_mc; (case hop => rfl); (case hg => (simp only [go_sem, *] <;> rfl)); (case hc => (intro hQz; (try simp only [wantB_t, wantB_f, Bool.and_eq_true, Bool.not_eq_true', Bool.not_true, Bool.not_false, and_true, true_and] at hQz); simp only [go_sem, *] <;> rfl)); (case hl => (intro hQz; (try simp only [wantB_t, wantB_f, Bool.and_eq_true, Bool.not_eq_true', Bool.not_true, Bool.not_false, and_true, true_and] at hQz); simp only [go_sem, *] <;> rfl)); (case hn => (intro hQz; (try simp only [wantB_t, wantB_f, Bool.and_eq_true, Bool.not_eq_true', Bool.not_true, Bool.not_false, and_true, true_and] at hQz); simp only [go_sem, *] <;> rfl)); (case hp => intro hQz; first | exact cut_ok _ _ _ _ | (have hXz := cut_ok _ _ _ _; simp only [go_sem, *] at hXz; exact hXz)))
 | (refine Awp.ret ?_; try simp only [go_sem, *]))
  all_goals repeat' (first | exact Lower.bool (by first | rfl | (simp only [overB, Bool.true_and, Bool.false_and, Bool.and_true, Bool.and_false, Bool.true_or, Bool.false_or, reduceIte, Bool.false_eq_true, *]; done) | (simp only [overB, reduceIte, Bool.false_eq_true, *] <;> rfl) | (simp [overB]; done) | (simp_all [overB]; done) | omega))
theorem nameEq_ok (nm : ByteArray) (q : By) : Pure Tryz.prog 71 [q.av, .rp [.v (.string nm)]] (.v (.bool (q.nm.toList == nm.toList))) := by
  refine fn_pure Tryz.F71 (Nat.le_of_ble_eq_true rfl) ?_; unfold Tryz.ac71 AR AM AO
  repeat' (first
 | (apply Awp.sreg; (case hn => (simp only [List.length_cons, List.length_nil, Nat.reduceAdd] <;> rfl)))
 | (refine st_nil ?_)
 | (apply st_a; (case hc => rfl); (case he => (simp only [go_sem, *] <;> rfl)); (case hu => (simp only [updL_nil, updL_cons] <;> rfl)); (case hp => first | trivial))
 | (refine Awp.ret ?_; try simp only [go_sem, *]))
  all_goals repeat' (first | exact Lower.bool (by first | rfl | (simp only [true_and, Bool.true_and, Bool.false_and, Bool.and_true, Bool.and_false, Bool.true_or, Bool.false_or, reduceIte, Bool.false_eq_true, *]; done) | (simp only [true_and, reduceIte, Bool.false_eq_true, *] <;> rfl) | (simp [true_and]; done) | (simp_all [true_and]; done) | omega))
theorem overC_ok (p q : Sty) : Pure Tryz.prog 73 [q.av, .rp p.cells] (.v (.bool (overB p q))) := by
  refine fn_pure Tryz.F73 (Nat.le_of_ble_eq_true rfl) ?_; unfold Tryz.ac73 AR AM AO
  repeat' (first
 | (apply Awp.sreg; (case hn => (simp only [List.length_cons, List.length_nil, Nat.reduceAdd] <;> rfl)))
 | (refine st_nil ?_)
 | (apply st_a; (case hc => rfl); (case he => (simp only [go_sem, *] <;> rfl)); (case hu => (simp only [updL_nil, updL_cons] <;> rfl)); (case hp => first | trivial))
 | (apply st_c; (case hc => (simp only [go_sem, *] <;> rfl)); (case hl => (simp only [go_sem, *] <;> rfl)); (case hn => (simp only [go_sem, *] <;> rfl)); (case hp => first | exact over_ok _ _ | (have hXz := over_ok _ _; simp only [go_sem, *] at hXz; exact hXz)))
 | (refine Awp.ret ?_; try simp only [go_sem, *]))
  all_goals repeat' (first | exact Lower.bool (by first | rfl | (simp only [true_and, Bool.true_and, Bool.false_and, Bool.and_true, Bool.and_false, Bool.true_or, Bool.false_or, reduceIte, Bool.false_eq_true, *]; done) | (simp only [true_and, reduceIte, Bool.false_eq_true, *] <;> rfl) | (simp [true_and]; done) | (simp_all [true_and]; done) | omega))
theorem indexB_ok (l : List By) (g : Nat) (cs : List AV) (p : By → Bool) (hl : l.length < 1000000) (hp : ∀ x : By, Pure Tryz.prog g [x.av, .rp cs] (.v (.bool (p x)))) :
    Pure Tryz.prog 70 [.sl (bys l), .fn g [.rp cs]] (.v (.int .i64 (idxF p l))) := by
  refine fn_pure Tryz.F70 (Nat.le_of_ble_eq_true rfl) ?_; unfold Tryz.ac70 AR AM AO
  repeat' (first
 | (apply Awp.sreg; (case hn => (simp only [List.length_cons, List.length_nil, Nat.reduceAdd] <;> rfl)))
 | (refine st_nil ?_)
 | (apply st_a; (case hc => rfl); (case he => (simp only [go_sem, *] <;> rfl)); (case hu => (simp only [updL_nil, updL_cons] <;> rfl)); (case hp => first | trivial))
 | refine Awp.block ?_
 | refine Awp.seq ?_)
  refine Awp.loop (fun i : Nat => i ≤ l.length ∧ ∀ j, j < i → p (l.getD j zeroBy) = false) 40 (fun i => mkS [(0, .sl (bys l)), (1, .fn g [.rp cs]), (7, .v (.int .i64 l.length)), (8, .v (.int .i64 i))] []) (fun i => l.length - i) 0 (by simp) ?_ ?_
  · (apply Ghost.mk [] []; (case hdead => rfl); (case hinj => rfl); (case hV => (simp only [go_sem, *]) <;> (repeat' (first | refine And.intro ?_ ?_ | exact View.int (by first | rfl | omega | (simp; done) | (rw [wrap_i64] <;> (try simp only [Int.natCast_add]) <;> omega) | (simp [*]; done)) | (refine View.fnF ?_; (simp [AV.flat]; done))))); (case hB => (simp only [go_sem, *]) <;> (repeat' (first | skip; done))))
  · intro i ⟨hi, hj⟩
    by_cases hlt : i < l.length
    · have hlt' : (i : Int) < l.length := by omega
      have hat := bys_at l i hlt
      have hz : ((l.getD i zeroBy).cells).length = 3 := rfl
      have hpi := hp (l.getD i zeroBy)
      repeat' (first
 | (apply Awp.sreg; (case hn => (simp only [List.length_cons, List.length_nil, Nat.reduceAdd] <;> rfl)))
 | (refine st_nil ?_)
 | (apply st_a; (case hc => rfl); (case he => (simp only [go_sem, *] <;> rfl)); (case hu => (simp only [updL_nil, updL_cons] <;> rfl)); (case hp => first | trivial | omega))
 | (apply st_c; (case hc => (simp only [go_sem, *] <;> rfl)); (case hl => (simp only [go_sem, *] <;> rfl)); (case hn => (simp only [go_sem, *] <;> rfl)); (case hp => first | exact hpi | (have hXz := hpi; simp only [go_sem, *] at hXz; exact hXz)))
 | (apply Awp.reg; (case hn => (simp only [List.length_cons, List.length_nil, Nat.reduceAdd] <;> rfl)))
 | (refine Awp.ret ?_; try simp only [go_sem, *])
 | (refine Awp.skip ?_; try simp only [go_sem, *])
 | refine Awp.block ?_
 | (apply Awp.cond; (case hc => (simp only [go_sem, *] <;> rfl)); all_goals (intro hg; (try simp only [Bool.not_true, Bool.not_false, reduceCtorEq] at hg)))
 | refine Awp.seq ?_)
      · exact Lower.int (idxF_in hlt hg hj).symm
      · refine ⟨i + 1, ⟨by omega, ltSucc hj hg⟩, by omega, ?_⟩
        (apply Ghost.mk [] []; (case hdead => rfl); (case hinj => rfl); (case hV => (simp only [go_sem, *]) <;> (repeat' (first | refine And.intro ?_ ?_ | exact View.int (by first | rfl | omega | (simp; done) | (rw [wrap_i64] <;> (try simp only [Int.natCast_add]) <;> omega) | (simp [*]; done)) | (refine View.fnF ?_; (simp [AV.flat]; done))))); (case hB => (simp only [go_sem, *]) <;> (repeat' (first | skip; done))))
    · have hlt' : ¬ (i : Int) < l.length := by omega
      repeat' (first
 | (apply Awp.sreg; (case hn => (simp only [List.length_cons, List.length_nil, Nat.reduceAdd] <;> rfl)))
 | (refine st_nil ?_)
 | (apply st_a; (case hc => rfl); (case he => (simp only [go_sem, *] <;> rfl)); (case hu => (simp only [updL_nil, updL_cons] <;> rfl)); (case hp => first | trivial))
 | (refine Awp.ret ?_; try simp only [go_sem, *])
 | (refine Awp.exit ?_; try simp only [go_sem, *])
 | (apply Awp.cond; (case hc => (simp only [go_sem, *] <;> rfl)); all_goals (intro hg; (try simp only [Bool.not_true, Bool.not_false, reduceCtorEq] at hg); (try have hg' := hg); (try simp only [decide_eq_true_eq, decide_eq_false_iff_not, Bool.and_eq_true, Bool.or_eq_false_iff, bne_iff_ne, bne_eq_false_iff_eq, beq_iff_eq, beq_eq_false_iff_ne, Int.not_lt, Int.not_le, Int.ofNat_lt, Int.ofNat_le, Int.natCast_inj] at hg')))
 | refine Awp.seq ?_)
      exact Lower.int (idxF_out (Nat.le_of_not_lt hlt) hj).symm
theorem indexS_ok2 (l : List Sty) (g : Nat) (cs : List AV) (p : Sty → Bool) (hl : l.length < 1000000) (hp : ∀ x : Sty, Pure Tryz.prog g [x.av, .rp cs] (.v (.bool (p x)))) :
    Pure Tryz.prog 88 [.sl (stys l), .fn g [.rp cs]] (.v (.int .i64 (idxF p l))) := by
  refine fn_pure Tryz.F88 (Nat.le_of_ble_eq_true rfl) ?_; unfold Tryz.ac88 AR AM AO
  repeat' (first
 | (apply Awp.sreg; (case hn => (simp only [List.length_cons, List.length_nil, Nat.reduceAdd] <;> rfl)))
 | (refine st_nil ?_)
 | (apply st_a; (case hc => rfl); (case he => (simp only [go_sem, *] <;> rfl)); (case hu => (simp only [updL_nil, updL_cons] <;> rfl)); (case hp => first | trivial))
 | refine Awp.block ?_
 | refine Awp.seq ?_)
  refine Awp.loop (fun i : Nat => i ≤ l.length ∧ ∀ j, j < i → p (l.getD j zeroSty) = false) 40 (fun i => mkS [(0, .sl (stys l)), (1, .fn g [.rp cs]), (7, .v (.int .i64 l.length)), (8, .v (.int .i64 i))] []) (fun i => l.length - i) 0 (by simp) ?_ ?_
  · (apply Ghost.mk [] []; (case hdead => rfl); (case hinj => rfl); (case hV => (simp only [go_sem, *]) <;> (repeat' (first | refine And.intro ?_ ?_ | exact View.int (by first | rfl | omega | (simp; done) | (rw [wrap_i64] <;> (try simp only [Int.natCast_add]) <;> omega) | (simp [*]; done)) | (refine View.fnF ?_; (simp [AV.flat]; done))))); (case hB => (simp only [go_sem, *]) <;> (repeat' (first | skip; done))))
  · intro i ⟨hi, hj⟩
    by_cases hlt : i < l.length
    · have hlt' : (i : Int) < l.length := by omega
      have hat := stys_at l i hlt
      have hz : ((l.getD i zeroSty).cells).length = 8 := rfl
      have hpi := hp (l.getD i zeroSty)
      repeat' (first
 | (apply Awp.sreg; (case hn => (simp only [List.length_cons, List.length_nil, Nat.reduceAdd] <;> rfl)))
 | (refine st_nil ?_)
 | (apply st_a; (case hc => rfl); (case he => (simp only [go_sem, *] <;> rfl)); (case hu => (simp only [updL_nil, updL_cons] <;> rfl)); (case hp => first | trivial | omega))
 | (apply st_c; (case hc => (simp only [go_sem, *] <;> rfl)); (case hl => (simp only [go_sem, *] <;> rfl)); (case hn => (simp only [go_sem, *] <;> rfl)); (case hp => first | exact hpi | (have hXz := hpi; simp only [go_sem, *] at hXz; exact hXz)))
 | (apply Awp.reg; (case hn => (simp only [List.length_cons, List.length_nil, Nat.reduceAdd] <;> rfl)))
 | (refine Awp.ret ?_; try simp only [go_sem, *])
 | (refine Awp.skip ?_; try simp only [go_sem, *])
 | refine Awp.block ?_
 | (apply Awp.cond; (case hc => (simp only [go_sem, *] <;> rfl)); all_goals (intro hg; (try simp only [Bool.not_true, Bool.not_false, reduceCtorEq] at hg)))
 | refine Awp.seq ?_)
      · exact Lower.int (idxF_in hlt hg hj).symm
      · refine ⟨i + 1, ⟨by omega, ltSucc hj hg⟩, by omega, ?_⟩
        (apply Ghost.mk [] []; (case hdead => rfl); (case hinj => rfl); (case hV => (simp only [go_sem, *]) <;> (repeat' (first | refine And.intro ?_ ?_ | exact View.int (by first | rfl | omega | (simp; done) | (rw [wrap_i64] <;> (try simp only [Int.natCast_add]) <;> omega) | (simp [*]; done)) | (refine View.fnF ?_; (simp [AV.flat]; done))))); (case hB => (simp only [go_sem, *]) <;> (repeat' (first | skip; done))))
    · have hlt' : ¬ (i : Int) < l.length := by omega
      repeat' (first
 | (apply Awp.sreg; (case hn => (simp only [List.length_cons, List.length_nil, Nat.reduceAdd] <;> rfl)))
 | (refine st_nil ?_)
 | (apply st_a; (case hc => rfl); (case he => (simp only [go_sem, *] <;> rfl)); (case hu => (simp only [updL_nil, updL_cons] <;> rfl)); (case hp => first | trivial))
 | (refine Awp.ret ?_; try simp only [go_sem, *])
 | (refine Awp.exit ?_; try simp only [go_sem, *])
 | (apply Awp.cond; (case hc => (simp only [go_sem, *] <;> rfl)); all_goals (intro hg; (try simp only [Bool.not_true, Bool.not_false, reduceCtorEq] at hg); (try have hg' := hg); (try simp only [decide_eq_true_eq, decide_eq_false_iff_not, Bool.and_eq_true, Bool.or_eq_false_iff, bne_iff_ne, bne_eq_false_iff_eq, beq_iff_eq, beq_eq_false_iff_ne, Int.not_lt, Int.not_le, Int.ofNat_lt, Int.ofNat_le, Int.natCast_inj] at hg')))
 | refine Awp.seq ?_)
      exact Lower.int (idxF_out (Nat.le_of_not_lt hlt) hj).symm
theorem idxF_any {α : Type} (p : α → Bool) (l : List α) : decide (0 ≤ idxF p l) = l.any p := by
  unfold idxF
  by_cases h : l.findIdx p < l.length
  · rw [if_pos h]
    have h2 := List.findIdx_getElem (w := h)
    have h3 : l.any p = true := List.any_eq_true.2 ⟨_, List.getElem_mem h, h2⟩
    rw [h3, decide_eq_true_eq]
    omega
  · rw [if_neg h]
    have h3 : l.any p = false := by
      rw [Bool.eq_false_iff]
      intro h4
      obtain ⟨x, hx, hpx⟩ := List.any_eq_true.1 h4
      exact h (List.findIdx_lt_length_of_exists ⟨x, hx, hpx⟩)
    rw [h3]; rfl
theorem containsS_ok (l : List Sty) (g : Nat) (cs : List AV) (p : Sty → Bool) (hl : l.length < 1000000) (hp : ∀ x : Sty, Pure Tryz.prog g [x.av, .rp cs] (.v (.bool (p x)))) :
    Pure Tryz.prog 72 [.sl (stys l), .fn g [.rp cs]] (.v (.bool (l.any p))) := by
  have h := indexS_ok2 l g cs p hl hp
  rw [← idxF_any]
  refine fn_pure Tryz.F72 (Nat.le_of_ble_eq_true rfl) ?_; unfold Tryz.ac72 AR AM AO
  repeat' (first
 | (apply Awp.sreg; (case hn => (simp only [List.length_cons, List.length_nil, Nat.reduceAdd] <;> rfl)))
 | (refine st_nil ?_)
 | (apply st_a; (case hc => rfl); (case he => (simp only [go_sem, *] <;> rfl)); (case hu => (simp only [updL_nil, updL_cons] <;> rfl)); (case hp => first | trivial))
 | (apply st_c; (case hc => (simp only [go_sem, *] <;> rfl)); (case hl => (simp only [go_sem, *] <;> rfl)); (case hn => (simp only [go_sem, *] <;> rfl)); (case hp => first | exact h | (have hXz := h; simp only [go_sem, *] at hXz; exact hXz)))
 | (refine Awp.ret ?_; try simp only [go_sem, *]))
  all_goals repeat' (first | exact Lower.bool (by first | rfl | (simp only [true_and, Bool.true_and, Bool.false_and, Bool.and_true, Bool.and_false, Bool.true_or, Bool.false_or, reduceIte, Bool.false_eq_true, *]; done) | (simp only [true_and, reduceIte, Bool.false_eq_true, *] <;> rfl) | (simp [true_and]; done) | (simp_all [true_and]; done) | omega))
def findB (l : List By) (nm : ByteArray) : By × Bool := if decide (idxF (fun q : By => q.nm.toList == nm.toList) l < 0) then (zeroBy, false) else (l.getD (idxF (fun q : By => q.nm.toList == nm.toList) l).toNat zeroBy, true)
theorem find_ok (l : List By) (nm : ByteArray) (hl : l.length < 1000000) : Pure Tryz.prog 50 [.sl (bys l), .v (.string nm)] (.tup [(findB l nm).1.av, .v (.bool (findB l nm).2)]) := by
  have h := indexB_ok l 71 [.v (.string nm)] (fun q : By => q.nm.toList == nm.toList) hl (nameEq_ok nm)
  unfold findB
  generalize hI : idxF (fun q : By => q.nm.toList == nm.toList) l = I at *
  by_cases h0 : I < 0
  · refine fn_pure Tryz.F50 (Nat.le_of_ble_eq_true rfl) ?_; unfold Tryz.ac50 AR AM AO
    repeat' (first
 | (apply Awp.sreg; (case hn => (simp only [List.length_cons, List.length_nil, Nat.reduceAdd] <;> rfl)))
 | (refine st_nil ?_)
 | (apply st_a; (case hc => rfl); (case he => (simp only [go_sem, *] <;> rfl)); (case hu => (simp only [updL_nil, updL_cons] <;> rfl)); (case hp => first | trivial))
 | (apply st_cd; (case hc => (simp only [go_sem, *] <;> rfl)); (case hl => (simp only [go_sem, *] <;> rfl)); (case hn => (simp only [go_sem, *] <;> rfl)); (case hp => first | exact h | (have hXz := h; simp only [go_sem, *] at hXz; exact hXz)); (case hd => first | exact .v _ | exact .any | exact .nils | (repeat' (first | exact Dry.v _ | exact Dry.any | exact Dry.nils | exact Dry.slE | refine Dry.agg ?_ | refine Dry.tup ?_ | (refine List.forall_mem_cons.2 (And.intro ?_ ?_)) | (intro cQ hQ; cases hQ; done)))); (case hm => first | decide | (simp; done)))
 | (refine Awp.ret ?_; try simp only [go_sem, *])
 | (apply Awp.cond; (case hc => (simp only [go_sem, *] <;> rfl)); all_goals (intro hg; (try simp only [Bool.not_true, Bool.not_false, reduceCtorEq] at hg); (try have hg' := hg); (try simp only [decide_eq_true_eq, decide_eq_false_iff_not, Bool.and_eq_true, Bool.or_eq_false_iff, bne_iff_ne, bne_eq_false_iff_eq, beq_iff_eq, beq_eq_false_iff_ne, Int.not_lt, Int.not_le, Int.ofNat_lt, Int.ofNat_le, Int.natCast_inj] at hg')))
 | refine Awp.seq ?_)
    all_goals repeat' (first | exact Lower.bool (by first | rfl | (simp only [zeroBy, Bool.true_and, Bool.false_and, Bool.and_true, Bool.and_false, Bool.true_or, Bool.false_or, reduceIte, Bool.false_eq_true, *]; done) | (simp only [zeroBy, reduceIte, Bool.false_eq_true, *] <;> rfl) | (simp [zeroBy]; done) | (simp_all [zeroBy]; done) | omega) | exact Lower.int (by first | rfl | (simp only [zeroBy, Bool.true_and, Bool.false_and, Bool.and_true, Bool.and_false, Bool.true_or, Bool.false_or, reduceIte, Bool.false_eq_true, *]; done) | (simp only [zeroBy, reduceIte, Bool.false_eq_true, *] <;> rfl) | (simp [zeroBy]; done) | (simp_all [zeroBy]; done) | omega) | exact Lower.str (by first | rfl | (simp only [zeroBy, Bool.true_and, Bool.false_and, Bool.and_true, Bool.and_false, Bool.true_or, Bool.false_or, reduceIte, Bool.false_eq_true, *]; done) | (simp only [zeroBy, reduceIte, Bool.false_eq_true, *] <;> rfl) | (simp [zeroBy]; done) | (simp_all [zeroBy]; done) | omega) | refine Lower.aggF ?_ | refine Lower.tupF ?_ | refine All2.cons ?_ ?_ | exact All2.nil)
  · have hlt : I.toNat < l.length := by
      unfold idxF at hI
      split at hI <;> omega
    have hat := bys_at l I.toNat hlt
    have hz : ((l.getD I.toNat zeroBy).cells).length = 3 := rfl
    have hlt' : I < l.length := by omega
    refine fn_pure Tryz.F50 (Nat.le_of_ble_eq_true rfl) ?_; unfold Tryz.ac50 AR AM AO
    repeat' (first
 | (apply Awp.sreg; (case hn => (simp only [List.length_cons, List.length_nil, Nat.reduceAdd] <;> rfl)))
 | (refine st_nil ?_)
 | (apply st_a; (case hc => rfl); (case he => (simp only [go_sem, *] <;> rfl)); (case hu => (simp only [updL_nil, updL_cons] <;> rfl)); (case hp => first | trivial | omega))
 | (apply st_cd; (case hc => (simp only [go_sem, *] <;> rfl)); (case hl => (simp only [go_sem, *] <;> rfl)); (case hn => (simp only [go_sem, *] <;> rfl)); (case hp => first | exact h | (have hXz := h; simp only [go_sem, *] at hXz; exact hXz)); (case hd => first | exact .v _ | exact .any | exact .nils | (repeat' (first | exact Dry.v _ | exact Dry.any | exact Dry.nils | exact Dry.slE | refine Dry.agg ?_ | refine Dry.tup ?_ | (refine List.forall_mem_cons.2 (And.intro ?_ ?_)) | (intro cQ hQ; cases hQ; done)))); (case hm => first | decide | (simp; done)))
 | (refine Awp.ret ?_; try simp only [go_sem, *])
 | (refine Awp.skip ?_; try simp only [go_sem, *])
 | (apply Awp.cond; (case hc => (simp only [go_sem, *] <;> rfl)); all_goals (intro hg; (try simp only [Bool.not_true, Bool.not_false, reduceCtorEq] at hg); (try have hg' := hg); (try simp only [decide_eq_true_eq, decide_eq_false_iff_not, Bool.and_eq_true, Bool.or_eq_false_iff, bne_iff_ne, bne_eq_false_iff_eq, beq_iff_eq, beq_eq_false_iff_ne, Int.not_lt, Int.not_le, Int.ofNat_lt, Int.ofNat_le, Int.natCast_inj] at hg')))
 | refine Awp.seq ?_)
    all_goals repeat' (first | exact Lower.bool (by first | rfl | (simp only [true_and, Bool.true_and, Bool.false_and, Bool.and_true, Bool.and_false, Bool.true_or, Bool.false_or, reduceIte, Bool.false_eq_true, *]; done) | (simp only [true_and, reduceIte, Bool.false_eq_true, *] <;> rfl) | (simp [true_and]; done) | (simp_all [true_and]; done) | omega) | exact Lower.int (by first | rfl | (simp only [true_and, Bool.true_and, Bool.false_and, Bool.and_true, Bool.and_false, Bool.true_or, Bool.false_or, reduceIte, Bool.false_eq_true, *]; done) | (simp only [true_and, reduceIte, Bool.false_eq_true, *] <;> rfl) | (simp [true_and]; done) | (simp_all [true_and]; done) | omega) | exact Lower.str (by first | rfl | (simp only [true_and, Bool.true_and, Bool.false_and, Bool.and_true, Bool.and_false, Bool.true_or, Bool.false_or, reduceIte, Bool.false_eq_true, *]; done) | (simp only [true_and, reduceIte, Bool.false_eq_true, *] <;> rfl) | (simp [true_and]; done) | (simp_all [true_and]; done) | omega) | refine Lower.aggF ?_ | refine Lower.tupF ?_ | refine All2.cons ?_ ?_ | exact All2.nil)
def rngB (x : Sty) : Bool := !sideB x.len || !sideB x.wid || decide (x.a < 0) || decide (x.b ≤ x.a) || decide (1048576 < x.b)
def offB (q : By) (x : Sty) : Bool := decide (x.x < 0) || decide (x.y < 0) || decide (IntKind.i64.wrap (q.len - x.len) < x.x) || decide (IntKind.i64.wrap (q.wid - x.wid) < x.y)
def stayE (bs : List By) (l : List Sty) (x : Sty) : Int :=
  if !idB x.item then 6 else if !(findB bs x.bay).2 then 8 else if rngB x then 9 else if offB (findB bs x.bay).1 x then 18 else if l.any (overB x) then 19 else 0
theorem stay_ok (bs : List By) (l : List Sty) (x : Sty) (hb : bs.length < 1000000) (hl : l.length < 1000000) : Pure Tryz.prog 51 [.sl (bys bs), .sl (stys l), x.av] (.v (.int .i64 (stayE bs l x))) := by
  have c0 := find_ok bs x.bay hb
  have c1 := isid_ok x.item
  have c2 := containsS_ok l 73 x.cells (overB x) hl (overC_ok x)
  unfold stayE
  generalize findB bs x.bay = F at *
  refine fn_pure Tryz.F51 (Nat.le_of_ble_eq_true rfl) ?_; unfold Tryz.ac51 AR AM AO
  repeat' (first
 | (apply Awp.sreg; (case hn => (simp only [List.length_cons, List.length_nil, Nat.reduceAdd] <;> rfl)))
 | (refine st_nil ?_)
 | (apply st_a; (case hc => rfl); (case he => (simp only [go_sem, *] <;> rfl)); (case hu => (simp only [updL_nil, updL_cons] <;> rfl)); (case hp => first | trivial))
 | (apply st_m; (case hc => rfl); (case hg => (simp only [go_sem, *] <;> rfl)); (case he => (intro hQz; (try simp only [wantB_t, wantB_f, Bool.and_eq_true, Bool.not_eq_true', Bool.not_true, Bool.not_false, and_true, true_and] at hQz); simp only [go_sem, *] <;> rfl)); (case hp => (intro hQz; (try simp only [wantB_t, wantB_f, Bool.and_eq_true, Bool.not_eq_true', Bool.or_eq_false_iff, decide_eq_true_eq, decide_eq_false_iff_not, beq_iff_eq, beq_eq_false_iff_ne, bne_iff_ne, bne_eq_false_iff_eq, Int.not_lt, Int.not_le, Int.ofNat_lt, Int.ofNat_le] at hQz); first | trivial)))
 | (apply st_c; (case hc => (simp only [go_sem, *] <;> rfl)); (case hl => (simp only [go_sem, *] <;> rfl)); (case hn => (simp only [go_sem, *] <;> rfl)); (case hp => first | exact c0 | (have hXz := c0; simp only [go_sem, *] at hXz; exact hXz)))
 | (apply st_c; (case hc => (simp only [go_sem, *] <;> rfl)); (case hl => (simp only [go_sem, *] <;> rfl)); (case hn => (simp only [go_sem, *] <;> rfl)); (case hp => first | exact c1 | (have hXz := c1; simp only [go_sem, *] at hXz; exact hXz)))
 | (apply st_cd; (case hc => (simp only [go_sem, *] <;> rfl)); (case hl => (simp only [go_sem, *] <;> rfl)); (case hn => (simp only [go_sem, *] <;> rfl)); (case hp => first | exact c2 | (have hXz := c2; simp only [go_sem, *] at hXz; exact hXz)); (case hd => first | exact .v _ | exact .any | exact .nils | (repeat' (first | exact Dry.v _ | exact Dry.any | exact Dry.nils | exact Dry.slE | refine Dry.agg ?_ | refine Dry.tup ?_ | (refine List.forall_mem_cons.2 (And.intro ?_ ?_)) | (intro cQ hQ; cases hQ; done)))); (case hm => first | decide | (simp; done)))
 | (apply st_mc; (case hop => rfl); (case hg => (simp only [go_sem, *] <;> rfl)); (case hc => (intro hQz; (try simp only [wantB_t, wantB_f, Bool.and_eq_true, Bool.not_eq_true', Bool.not_true, Bool.not_false, and_true, true_and] at hQz); simp only [go_sem, *] <;> rfl)); (case hl => (intro hQz; (try simp only [wantB_t, wantB_f, Bool.and_eq_true, Bool.not_eq_true', Bool.not_true, Bool.not_false, and_true, true_and] at hQz); simp only [go_sem, *] <;> rfl)); (case hn => (intro hQz; (try simp only [wantB_t, wantB_f, Bool.and_eq_true, Bool.not_eq_true', Bool.not_true, Bool.not_false, and_true, true_and] at hQz); simp only [go_sem, *] <;> rfl)); (case hp => intro hQz; first | exact side_ok _ | (have hXz := side_ok _; simp only [go_sem, *] at hXz; exact hXz)))
 | (apply st_c; (case hc => (simp only [go_sem, *] <;> rfl)); (case hl => (simp only [go_sem, *] <;> rfl)); (case hn => (simp only [go_sem, *] <;> rfl)); (case hp => first | exact side_ok _ | (have hXz := side_ok _; simp only [go_sem, *] at hXz; exact hXz)))
 | (refine Awp.ret ?_; try simp only [go_sem, *])
 | (refine Awp.skip ?_; try simp only [go_sem, *])
 | refine Awp.block ?_
 | (apply Awp.cond; (case hc => (simp only [go_sem, *] <;> rfl)); all_goals (intro hg; (try simp only [Bool.not_true, Bool.not_false, reduceCtorEq] at hg)))
 | refine Awp.seq ?_)
  all_goals repeat' (first | exact Lower.int (by first | rfl | (simp only [rngB, offB, Bool.true_and, Bool.false_and, Bool.and_true, Bool.and_false, Bool.true_or, Bool.false_or, reduceIte, Bool.false_eq_true, *]; done) | (simp only [rngB, offB, reduceIte, Bool.false_eq_true, *] <;> rfl) | (simp [rngB, offB]; done) | (simp_all [rngB, offB]; done) | omega))
def firstE (f : Nat → Int) (n : Nat) : Int := match (List.range n).find? (fun i => f i != 0) with
  | some i => f i
  | none => 0
theorem firstE_bad {f : Nat → Int} {n i : Nat} (hi : i < n) (h : f i ≠ 0) (hj : ∀ j, j < i → f j = 0) : firstE f n = f i := by
  have e : (List.range n).find? (fun i => f i != 0) = some i := by
    rw [List.find?_eq_some_iff_getElem]
    refine ⟨by simpa using h, i, by simpa using hi, by simp, fun j hji => ?_⟩
    have := hj j hji
    simp [this]
  unfold firstE
  rw [e]
theorem firstE_end {f : Nat → Int} {n i : Nat} (hi : n ≤ i) (hj : ∀ j, j < i → f j = 0) : firstE f n = 0 := by
  have e : (List.range n).find? (fun i => f i != 0) = none := by
    rw [List.find?_eq_none]
    intro j hjn
    have := hj j (by have := List.mem_range.1 hjn; omega)
    simp [this]
  unfold firstE
  rw [e]
theorem bys_take (l : List By) (i : Nat) : (bys l).take i = bys (l.take i) := by simp [bys, List.map_take]
theorem stys_take (l : List Sty) (i : Nat) : (stys l).take i = stys (l.take i) := by simp [stys, List.map_take]
def bayAt (bs : List By) (i : Nat) : Int :=
  if !nameB (bs.getD i zeroBy).nm then 6 else if !sideB (bs.getD i zeroBy).len || !sideB (bs.getD i zeroBy).wid then 9 else if (findB (bs.take i) (bs.getD i zeroBy).nm).2 then 7 else 0
def checkE (bs : List By) (l : List Sty) : Int :=
  if decide ((8 : Int) < bs.length) || decide ((128 : Int) < l.length) then 4 else if firstE (bayAt bs) bs.length != 0 then firstE (bayAt bs) bs.length
  else firstE (fun i => stayE bs (l.take i) (l.getD i zeroSty)) l.length
theorem ck_bad {bs : List By} {l : List Sty} {i : Nat} {e : Int} (hL : (decide ((8 : Int) < bs.length) || decide ((128 : Int) < l.length)) = false) (hi : i < bs.length) (hj : ∀ j, j < i → bayAt bs j = 0) (h : bayAt bs i = e) (he : e ≠ 0) : e = checkE bs l := by
  have h1 := firstE_bad (f := bayAt bs) hi (by rw [h]; exact he) hj
  rw [h] at h1
  unfold checkE
  rw [if_neg (by rw [hL]; simp), h1, if_pos (by simpa using he)]
theorem ck_stay {bs : List By} {l : List Sty} {i : Nat} {e : Int} (hL : (decide ((8 : Int) < bs.length) || decide ((128 : Int) < l.length)) = false) (hb : firstE (bayAt bs) bs.length = 0) (hi : i < l.length) (hj : ∀ j, j < i → stayE bs (l.take j) (l.getD j zeroSty) = 0) (h : stayE bs (l.take i) (l.getD i zeroSty) = e) (he : e ≠ 0) : e = checkE bs l := by
  have h1 := firstE_bad (f := fun i => stayE bs (l.take i) (l.getD i zeroSty)) hi (by show stayE bs (l.take i) (l.getD i zeroSty) ≠ 0; rw [h]; exact he) hj
  rw [h] at h1
  unfold checkE
  rw [if_neg (by rw [hL]; simp), if_neg (by rw [hb]; simp), h1]
theorem ck_end {bs : List By} {l : List Sty} {i : Nat} (hL : (decide ((8 : Int) < bs.length) || decide ((128 : Int) < l.length)) = false) (hb : firstE (bayAt bs) bs.length = 0) (hi : l.length ≤ i) (hj : ∀ j, j < i → stayE bs (l.take j) (l.getD j zeroSty) = 0) : 0 = checkE bs l := by
  have h1 := firstE_end (f := fun i => stayE bs (l.take i) (l.getD i zeroSty)) hi hj
  unfold checkE
  rw [if_neg (by rw [hL]; simp), if_neg (by rw [hb]; simp), h1]
theorem check_ok (bs : List By) (l : List Sty) (hb : bs.length < 100000) (hl : l.length < 100000) : Pure Tryz.prog 29 [.sl (bys bs), .sl (stys l)] (.v (.int .i64 (checkE bs l))) := by
  by_cases hL : (decide ((8 : Int) < bs.length) || decide ((128 : Int) < l.length)) = true
  · unfold checkE
    rw [if_pos hL]
    refine fn_pure Tryz.F29 (Nat.le_of_ble_eq_true rfl) ?_; unfold Tryz.ac29 AR AM AO
    repeat' (first
 | (apply Awp.sreg; (case hn => (simp only [List.length_cons, List.length_nil, Nat.reduceAdd] <;> rfl)))
 | (refine st_nil ?_)
 | (apply st_a; (case hc => rfl); (case he => (simp only [go_sem, *] <;> rfl)); (case hu => (simp only [updL_nil, updL_cons] <;> rfl)); (case hp => first | trivial))
 | (apply st_m; (case hc => rfl); (case hg => (simp only [go_sem, *] <;> rfl)); (case he => (intro hQz; (try simp only [wantB_t, wantB_f, Bool.and_eq_true, Bool.not_eq_true', Bool.not_true, Bool.not_false, and_true, true_and] at hQz); simp only [go_sem, *] <;> rfl)); (case hp => (intro hQz; (try simp only [wantB_t, wantB_f, Bool.and_eq_true, Bool.not_eq_true', Bool.or_eq_false_iff, decide_eq_true_eq, decide_eq_false_iff_not, beq_iff_eq, beq_eq_false_iff_ne, bne_iff_ne, bne_eq_false_iff_eq, Int.not_lt, Int.not_le, Int.ofNat_lt, Int.ofNat_le] at hQz); first | trivial)))
 | (refine Awp.ret ?_; try simp only [go_sem, *])
 | (apply Awp.cond; (case hc => (simp only [go_sem, *] <;> rfl)); all_goals (intro hg; (try simp only [Bool.not_true, Bool.not_false, reduceCtorEq] at hg)))
 | refine Awp.seq ?_)
    all_goals first | repeat' (first | exact Lower.int (by first | rfl | (simp only [true_and, Bool.true_and, Bool.false_and, Bool.and_true, Bool.and_false, Bool.true_or, Bool.false_or, reduceIte, Bool.false_eq_true, *]; done) | (simp only [true_and, reduceIte, Bool.false_eq_true, *] <;> rfl) | (simp [true_and]; done) | (simp_all [true_and]; done) | omega)) | skip
    all_goals (exfalso; simp_all)
  have hL' : (decide ((8 : Int) < bs.length) || decide ((128 : Int) < l.length)) = false := by simpa using hL
  clear hL
  refine fn_pure Tryz.F29 (Nat.le_of_ble_eq_true rfl) ?_; unfold Tryz.ac29 AR AM AO
  repeat' (first
 | (apply Awp.sreg; (case hn => (simp only [List.length_cons, List.length_nil, Nat.reduceAdd] <;> rfl)))
 | (refine st_nil ?_)
 | (apply st_a; (case hc => rfl); (case he => (simp only [go_sem, *] <;> rfl)); (case hu => (simp only [updL_nil, updL_cons] <;> rfl)); (case hp => first | trivial))
 | (apply st_m; (case hc => rfl); (case hg => (simp only [go_sem, *] <;> rfl)); (case he => (intro hQz; (try simp only [wantB_t, wantB_f, Bool.and_eq_true, Bool.not_eq_true', Bool.not_true, Bool.not_false, and_true, true_and] at hQz); simp only [go_sem, *] <;> rfl)); (case hp => (intro hQz; (try simp only [wantB_t, wantB_f, Bool.and_eq_true, Bool.not_eq_true', Bool.or_eq_false_iff, decide_eq_true_eq, decide_eq_false_iff_not, beq_iff_eq, beq_eq_false_iff_ne, bne_iff_ne, bne_eq_false_iff_eq, Int.not_lt, Int.not_le, Int.ofNat_lt, Int.ofNat_le] at hQz); first | trivial)))
 | (refine Awp.skip ?_; try simp only [go_sem, *])
 | refine Awp.block ?_
 | (apply Awp.cond; (case hc => (simp only [go_sem, *] <;> rfl)); all_goals (intro hg; (try simp only [Bool.not_true, Bool.not_false, reduceCtorEq] at hg)))
 | refine Awp.seq ?_)
  refine Awp.loop (fun i : Nat => i ≤ bs.length ∧ ∀ j, j < i → bayAt bs j = 0) 40 (fun i => mkS [(0, .sl (bys bs)), (1, .sl (stys l)), (20, .sl (bys bs)), (21, .v (.int .i64 bs.length)), (22, .v (.int .i64 i))] []) (fun i => bs.length - i) 0 (by simp) ?_ ?_
  · (apply Ghost.mk [] []; (case hdead => rfl); (case hinj => rfl); (case hV => (simp only [go_sem, *]) <;> (repeat' (first | exact View.int (by first | rfl | omega | (simp; done) | (rw [wrap_i64] <;> (try simp only [Int.natCast_add]) <;> omega) | (simp [*]; done))))); (case hB => (simp only [go_sem, *]) <;> (repeat' (first | skip; done))))
  · intro i ⟨hi, hj⟩
    by_cases hlt : i < bs.length
    · have hlt' : (i : Int) < bs.length := by omega
      have hat := bys_at bs i hlt
      have hz : ((bs.getD i zeroBy).cells).length = 3 := rfl
      have h3 := bys_one bs
      have ht := bys_take bs i
      have c0 := name_ok (bs.getD i zeroBy).nm
      have c1 := find_ok (bs.take i) (bs.getD i zeroBy).nm (by simp; omega)
      have hle : (i : Int) ≤ bs.length := by omega
      have h00 : (0 : Int) ≤ i := by omega
      generalize hF : findB (bs.take i) (bs.getD i zeroBy).nm = F at c1
      repeat' (first
 | (apply Awp.sreg; (case hn => (simp only [List.length_cons, List.length_nil, Nat.reduceAdd] <;> rfl)))
 | (apply Awp.sdraw; (case hn => (simp only [List.length_cons, List.length_nil, Nat.reduceAdd] <;> rfl)))
 | (refine st_nil ?_)
 | (apply st_a; (case hc => rfl); (case he => (simp only [go_sem, *] <;> rfl)); (case hu => (simp only [updL_nil, updL_cons] <;> rfl)); (case hp => first | trivial))
 | (apply st_m; (case hc => rfl); (case hg => (simp only [go_sem, *] <;> rfl)); (case he => (intro hQz; (try simp only [wantB_t, wantB_f, Bool.and_eq_true, Bool.not_eq_true', Bool.not_true, Bool.not_false, and_true, true_and] at hQz); simp only [go_sem, *] <;> rfl)); (case hp => (intro hQz; (try simp only [wantB_t, wantB_f, Bool.and_eq_true, Bool.not_eq_true', Bool.or_eq_false_iff, decide_eq_true_eq, decide_eq_false_iff_not, beq_iff_eq, beq_eq_false_iff_ne, bne_iff_ne, bne_eq_false_iff_eq, Int.not_lt, Int.not_le, Int.ofNat_lt, Int.ofNat_le] at hQz); first | trivial)))
 | (apply st_c; (case hc => (simp only [go_sem, *] <;> rfl)); (case hl => (simp only [go_sem, *] <;> rfl)); (case hn => (simp only [go_sem, *] <;> rfl)); (case hp => first | exact c0 | (have hXz := c0; simp only [go_sem, *] at hXz; exact hXz)))
 | (apply st_mc; (case hop => rfl); (case hg => (simp only [go_sem, *] <;> rfl)); (case hc => (intro hQz; (try simp only [wantB_t, wantB_f, Bool.and_eq_true, Bool.not_eq_true', Bool.not_true, Bool.not_false, and_true, true_and] at hQz); simp only [go_sem, *] <;> rfl)); (case hl => (intro hQz; (try simp only [wantB_t, wantB_f, Bool.and_eq_true, Bool.not_eq_true', Bool.not_true, Bool.not_false, and_true, true_and] at hQz); simp only [go_sem, *] <;> rfl)); (case hn => (intro hQz; (try simp only [wantB_t, wantB_f, Bool.and_eq_true, Bool.not_eq_true', Bool.not_true, Bool.not_false, and_true, true_and] at hQz); simp only [go_sem, *] <;> rfl)); (case hp => intro hQz; first | exact side_ok _ | (have hXz := side_ok _; simp only [go_sem, *] at hXz; exact hXz)))
 | (apply st_c; (case hc => (simp only [go_sem, *] <;> rfl)); (case hl => (simp only [go_sem, *] <;> rfl)); (case hn => (simp only [go_sem, *] <;> rfl)); (case hp => first | exact side_ok _ | (have hXz := side_ok _; simp only [go_sem, *] at hXz; exact hXz)))
 | (apply Awp.reg; (case hn => (simp only [List.length_cons, List.length_nil, Nat.reduceAdd] <;> rfl)))
 | (refine Awp.ret ?_; try simp only [go_sem, *])
 | (refine Awp.skip ?_; try simp only [go_sem, *])
 | refine Awp.block ?_
 | (apply Awp.cond; (case hc => (simp only [go_sem, *] <;> rfl)); all_goals (intro hg; (try simp only [Bool.not_true, Bool.not_false, reduceCtorEq] at hg)))
 | refine Awp.seq ?_
 | (apply sl_a; (case hc => rfl); (case he => (simp only [go_sem, *] <;> rfl)); (case hu => (simp only [updL_nil, updL_cons] <;> rfl)); (case hl => (simp only [List.map_cons, List.map_nil] <;> rfl)); (case hp => first | trivial))
 | (apply sl_c; (case hc => (simp only [go_sem, *] <;> rfl)); (case hl => (simp only [go_sem, *] <;> rfl)); (case hn => (simp only [go_sem, *] <;> rfl)); (case hp => first | exact c1 | (have hXz := c1; simp only [go_sem, *] at hXz; exact hXz)); (case hd => first | exact .inl rfl | exact .inr (.v _) | exact .inr .any | exact .inr .nils | (refine .inr ?_; (repeat' (first | exact Dry.v _ | exact Dry.any | exact Dry.nils | exact Dry.slE | refine Dry.agg ?_ | refine Dry.tup ?_ | (refine List.forall_mem_cons.2 (And.intro ?_ ?_)) | (intro cQ hQ; cases hQ; done))); done)); (case hm => first | decide | (simp; done)))
 | (refine sl_nil (And.intro (by first | exact drawOk_of (by decide +kernel) | (simp only [List.map_cons, List.map_nil]; exact drawOk_of (by decide +kernel)) | decide) ?_)))
      · exact Lower.int (ck_bad hL' hlt hj (by simp only [bayAt, hF, *, reduceIte, Bool.false_eq_true]) (by decide))
      · exact Lower.int (ck_bad hL' hlt hj (by simp only [bayAt, hF, *, reduceIte, Bool.false_eq_true]) (by decide))
      · exact Lower.int (ck_bad hL' hlt hj (by simp only [bayAt, hF, *, reduceIte, Bool.false_eq_true]) (by decide))
      · refine ⟨i + 1, ⟨by omega, ltSucc hj (by simp only [bayAt, hF, *, reduceIte, Bool.false_eq_true])⟩, by omega, ?_⟩
        (apply Ghost.mk [] []; (case hdead => rfl); (case hinj => rfl); (case hV => (simp only [go_sem, *]) <;> (repeat' (first | exact View.int (by first | rfl | omega | (simp; done) | (rw [wrap_i64] <;> (try simp only [Int.natCast_add]) <;> omega) | (simp [*]; done))))); (case hB => (simp only [go_sem, *]) <;> (repeat' (first | skip; done))))
    · have hlt' : ¬ (i : Int) < bs.length := by omega
      have hfe := firstE_end (Nat.le_of_not_lt hlt) hj
      clear hj
      repeat' (first
 | (apply Awp.sreg; (case hn => (simp only [List.length_cons, List.length_nil, Nat.reduceAdd] <;> rfl)))
 | (refine st_nil ?_)
 | (apply st_a; (case hc => rfl); (case he => (simp only [go_sem, *] <;> rfl)); (case hu => (simp only [updL_nil, updL_cons] <;> rfl)); (case hp => first | trivial))
 | (refine Awp.exit ?_; try simp only [go_sem, *])
 | refine Awp.block ?_
 | (apply Awp.cond; (case hc => (simp only [go_sem, *] <;> rfl)); all_goals (intro hg; (try simp only [Bool.not_true, Bool.not_false, reduceCtorEq] at hg)))
 | refine Awp.seq ?_)
      clear hlt hlt' hi
      refine Awp.loop (fun i : Nat => i ≤ l.length ∧ ∀ j, j < i → stayE bs (l.take j) (l.getD j zeroSty) = 0) 60 (fun i => mkS [(0, .sl (bys bs)), (1, .sl (stys l)), (52, .sl (stys l)), (53, .v (.int .i64 l.length)), (54, .v (.int .i64 i))] []) (fun i => l.length - i) 0 (by simp) ?_ ?_
      · (apply Ghost.mk [] []; (case hdead => rfl); (case hinj => rfl); (case hV => (simp only [go_sem, *]) <;> (repeat' (first | exact View.int (by first | rfl | omega | (simp; done) | (rw [wrap_i64] <;> (try simp only [Int.natCast_add]) <;> omega) | (simp [*]; done))))); (case hB => (simp only [go_sem, *]) <;> (repeat' (first | skip; done))))
      · intro k ⟨hi, hj⟩
        by_cases hlt : k < l.length
        · have hlt' : (k : Int) < l.length := by omega
          have hat := stys_at l k hlt
          have hz : ((l.getD k zeroSty).cells).length = 8 := rfl
          have h3 := stys_one l
          have ht := stys_take l k
          have hle : (k : Int) ≤ l.length := by omega
          have h00 : (0 : Int) ≤ k := by omega
          have c0 := stay_ok bs (l.take k) (l.getD k zeroSty) (by omega) (by simp; omega)
          generalize hE : stayE bs (l.take k) (l.getD k zeroSty) = e at c0
          repeat' (first
 | (apply Awp.sreg; (case hn => (simp only [List.length_cons, List.length_nil, Nat.reduceAdd] <;> rfl)))
 | (apply Awp.sdraw; (case hn => (simp only [List.length_cons, List.length_nil, Nat.reduceAdd] <;> rfl)))
 | (refine st_nil ?_)
 | (apply st_a; (case hc => rfl); (case he => (simp only [go_sem, *] <;> rfl)); (case hu => (simp only [updL_nil, updL_cons] <;> rfl)); (case hp => first | trivial))
 | (apply Awp.reg; (case hn => (simp only [List.length_cons, List.length_nil, Nat.reduceAdd] <;> rfl)))
 | (refine Awp.ret ?_; try simp only [go_sem, *])
 | (refine Awp.skip ?_; try simp only [go_sem, *])
 | refine Awp.block ?_
 | (apply Awp.cond; (case hc => (simp only [go_sem, *] <;> rfl)); all_goals (intro hg; (try simp only [Bool.not_true, Bool.not_false, reduceCtorEq] at hg)))
 | refine Awp.seq ?_
 | (apply sl_a; (case hc => rfl); (case he => (simp only [go_sem, *] <;> rfl)); (case hu => (simp only [updL_nil, updL_cons] <;> rfl)); (case hl => (simp only [List.map_cons, List.map_nil] <;> rfl)); (case hp => first | trivial))
 | (apply sl_c; (case hc => (simp only [go_sem, *] <;> rfl)); (case hl => (simp only [go_sem, *] <;> rfl)); (case hn => (simp only [go_sem, *] <;> rfl)); (case hp => first | exact c0 | (have hXz := c0; simp only [go_sem, *] at hXz; exact hXz)); (case hd => first | exact .inl rfl | exact .inr (.v _) | exact .inr .any | exact .inr .nils | (refine .inr ?_; (repeat' (first | exact Dry.v _ | exact Dry.any | exact Dry.nils | exact Dry.slE | refine Dry.agg ?_ | refine Dry.tup ?_ | (refine List.forall_mem_cons.2 (And.intro ?_ ?_)) | (intro cQ hQ; cases hQ; done))); done)); (case hm => first | decide | (simp; done)))
 | (refine sl_nil (And.intro (by first | exact drawOk_of (by decide +kernel) | (simp only [List.map_cons, List.map_nil]; exact drawOk_of (by decide +kernel)) | decide) ?_)))
          · exact Lower.int (ck_stay hL' hfe hlt hj hE (by simpa using hg))
          · refine ⟨k + 1, ⟨by omega, ltSucc hj (by rw [hE]; simpa using hg)⟩, by omega, ?_⟩
            (apply Ghost.mk [] []; (case hdead => rfl); (case hinj => rfl); (case hV => (simp only [go_sem, *]) <;> (repeat' (first | exact View.int (by first | rfl | omega | (simp; done) | (rw [wrap_i64] <;> (try simp only [Int.natCast_add]) <;> omega) | (simp [*]; done))))); (case hB => (simp only [go_sem, *]) <;> (repeat' (first | skip; done))))
        · have hlt' : ¬ (k : Int) < l.length := by omega
          repeat' (first
 | (apply Awp.sreg; (case hn => (simp only [List.length_cons, List.length_nil, Nat.reduceAdd] <;> rfl)))
 | (refine st_nil ?_)
 | (apply st_a; (case hc => rfl); (case he => (simp only [go_sem, *] <;> rfl)); (case hu => (simp only [updL_nil, updL_cons] <;> rfl)); (case hp => first | trivial))
 | (refine Awp.ret ?_; try simp only [go_sem, *])
 | (refine Awp.exit ?_; try simp only [go_sem, *])
 | (apply Awp.cond; (case hc => (simp only [go_sem, *] <;> rfl)); all_goals (intro hg; (try simp only [Bool.not_true, Bool.not_false, reduceCtorEq] at hg)))
 | refine Awp.seq ?_)
          exact Lower.int (ck_end hL' hfe (Nat.le_of_not_lt hlt) hj)
theorem in_ok (n a b : Int) : Pure Tryz.prog 57 [.v (.int .i64 n), .v (.int .i64 a), .v (.int .i64 b)] (.v (.bool (decide (a ≤ n) && decide (n ≤ b)))) := by
  refine fn_pure Tryz.F57 (Nat.le_of_ble_eq_true rfl) ?_; unfold Tryz.ac57 AR AM AO
  repeat' (first
 | (apply Awp.sreg; (case hn => (simp only [List.length_cons, List.length_nil, Nat.reduceAdd] <;> rfl)))
 | (refine st_nil ?_)
 | (apply st_a; (case hc => rfl); (case he => (simp only [go_sem, *] <;> rfl)); (case hu => (simp only [updL_nil, updL_cons] <;> rfl)); (case hp => first | trivial))
 | (apply st_m; (case hc => rfl); (case hg => (simp only [go_sem, *] <;> rfl)); (case he => (intro hQz; (try simp only [wantB_t, wantB_f, Bool.and_eq_true, Bool.not_eq_true', Bool.not_true, Bool.not_false, and_true, true_and] at hQz); simp only [go_sem, *] <;> rfl)); (case hp => (intro hQz; (try simp only [wantB_t, wantB_f, Bool.and_eq_true, Bool.not_eq_true', Bool.or_eq_false_iff, decide_eq_true_eq, decide_eq_false_iff_not, beq_iff_eq, beq_eq_false_iff_ne, bne_iff_ne, bne_eq_false_iff_eq, Int.not_lt, Int.not_le, Int.ofNat_lt, Int.ofNat_le] at hQz); first | trivial)))
 | (refine Awp.ret ?_; try simp only [go_sem, *]))
  all_goals repeat' (first | exact Lower.bool (by first | rfl | (simp only [true_and, Bool.true_and, Bool.false_and, Bool.and_true, Bool.and_false, Bool.true_or, Bool.false_or, reduceIte, Bool.false_eq_true, *]; done) | (simp only [true_and, reduceIte, Bool.false_eq_true, *] <;> rfl) | (simp [true_and]; done) | (simp_all [true_and]; done) | omega))
theorem rfind_ok (l : List By) (nm : ByteArray) (hl : l.length < 1000000) : Pure Tryz.prog 80 [.sl (bys l), .v (.string nm)] (.v (.int .i64 (idxF (fun q : By => q.nm.toList == nm.toList) l))) := by
  refine fn_pure Tryz.F80 (Nat.le_of_ble_eq_true rfl) ?_; unfold Tryz.ac80 AR AM AO
  repeat' (first
 | (apply Awp.sreg; (case hn => (simp only [List.length_cons, List.length_nil, Nat.reduceAdd] <;> rfl)))
 | (refine st_nil ?_)
 | (apply st_a; (case hc => rfl); (case he => (simp only [go_sem, *] <;> rfl)); (case hu => (simp only [updL_nil, updL_cons] <;> rfl)); (case hp => first | trivial))
 | refine Awp.block ?_
 | refine Awp.seq ?_)
  refine Awp.loop (fun i : Nat => i ≤ l.length ∧ ∀ j, j < i → (fun q : By => q.nm.toList == nm.toList) (l.getD j zeroBy) = false) 40 (fun i => mkS [(0, .sl (bys l)), (1, .v (.string nm)), (5, .v (.int .i64 i))] []) (fun i => l.length - i) 0 (by simp) ?_ ?_
  · (apply Ghost.mk [] []; (case hdead => rfl); (case hinj => rfl); (case hV => (simp only [go_sem, *]) <;> (repeat' (first | exact View.int (by first | rfl | omega | (simp; done) | (rw [wrap_i64] <;> (try simp only [Int.natCast_add]) <;> omega) | (simp [*]; done))))); (case hB => (simp only [go_sem, *]) <;> (repeat' (first | skip; done))))
  · intro i ⟨hi, hj⟩
    by_cases hlt : i < l.length
    · have hlt' : (i : Int) < l.length := by omega
      have hat := bys_at l i hlt
      have hz : ((l.getD i zeroBy).cells).length = 3 := rfl
      repeat' (first
 | (apply Awp.sreg; (case hn => (simp only [List.length_cons, List.length_nil, Nat.reduceAdd] <;> rfl)))
 | (refine st_nil ?_)
 | (apply st_a; (case hc => rfl); (case he => (simp only [go_sem, *] <;> rfl)); (case hu => (simp only [updL_nil, updL_cons] <;> rfl)); (case hp => first | trivial | omega))
 | (apply Awp.reg; (case hn => (simp only [List.length_cons, List.length_nil, Nat.reduceAdd] <;> rfl)))
 | (refine Awp.ret ?_; try simp only [go_sem, *])
 | (refine Awp.skip ?_; try simp only [go_sem, *])
 | refine Awp.block ?_
 | (apply Awp.cond; (case hc => (simp only [go_sem, *] <;> rfl)); all_goals (intro hg; (try simp only [Bool.not_true, Bool.not_false, reduceCtorEq] at hg)))
 | refine Awp.seq ?_)
      · exact Lower.int (idxF_in hlt hg hj).symm
      · refine ⟨i + 1, ⟨by omega, ltSucc hj hg⟩, by omega, ?_⟩
        (apply Ghost.mk [] []; (case hdead => rfl); (case hinj => rfl); (case hV => (simp only [go_sem, *]) <;> (repeat' (first | exact View.int (by first | rfl | omega | (simp; done) | (rw [wrap_i64] <;> (try simp only [Int.natCast_add]) <;> omega) | (simp [*]; done))))); (case hB => (simp only [go_sem, *]) <;> (repeat' (first | skip; done))))
    · have hlt' : ¬ (i : Int) < l.length := by omega
      repeat' (first
 | (apply Awp.sreg; (case hn => (simp only [List.length_cons, List.length_nil, Nat.reduceAdd] <;> rfl)))
 | (refine st_nil ?_)
 | (apply st_a; (case hc => rfl); (case he => (simp only [go_sem, *] <;> rfl)); (case hu => (simp only [updL_nil, updL_cons] <;> rfl)); (case hp => first | trivial))
 | (refine Awp.ret ?_; try simp only [go_sem, *])
 | (refine Awp.exit ?_; try simp only [go_sem, *])
 | (apply Awp.cond; (case hc => (simp only [go_sem, *] <;> rfl)); all_goals (intro hg; (try simp only [Bool.not_true, Bool.not_false, reduceCtorEq] at hg); (try have hg' := hg); (try simp only [decide_eq_true_eq, decide_eq_false_iff_not, Bool.and_eq_true, Bool.or_eq_false_iff, bne_iff_ne, bne_eq_false_iff_eq, beq_iff_eq, beq_eq_false_iff_ne, Int.not_lt, Int.not_le, Int.ofNat_lt, Int.ofNat_le, Int.natCast_inj] at hg')))
 | refine Awp.seq ?_)
      exact Lower.int (idxF_out (Nat.le_of_not_lt hlt) hj).symm
def roverB (q p : Sty) : Bool := (q.bay.toList == p.bay.toList) && decide (q.a < p.b) && decide (p.a < q.b) && decide (q.x < IntKind.i64.wrap (p.x + p.len)) && decide (p.x < IntKind.i64.wrap (q.x + q.len)) && decide (q.y < IntKind.i64.wrap (p.y + p.wid)) && decide (p.y < IntKind.i64.wrap (q.y + q.wid))
theorem roverB_eq (q p : Sty) : roverB q p = overB p q := by
  rw [Bool.eq_iff_iff]
  simp only [roverB, overB, cutB, Bool.and_eq_true, decide_eq_true_eq, beq_iff_eq]
  constructor
  · rintro ⟨⟨⟨⟨⟨⟨h1, h2⟩, h3⟩, h4⟩, h5⟩, h6⟩, h7⟩
    exact ⟨⟨⟨⟨h1.symm, h3⟩, h2⟩, h5, h4⟩, h7, h6⟩
  · rintro ⟨⟨⟨⟨h1, h2⟩, h3⟩, h4, h5⟩, h6, h7⟩
    exact ⟨⟨⟨⟨⟨⟨h1.symm, h3⟩, h2⟩, h5⟩, h4⟩, h7⟩, h6⟩
theorem rover_ok (q p : Sty) : Pure Tryz.prog 81 [q.av, p.av] (.v (.bool (overB p q))) := by
  rw [← roverB_eq]
  refine fn_pure Tryz.F81 (Nat.le_of_ble_eq_true rfl) ?_; unfold Tryz.ac81 AR AM AO
  repeat' (first
 | (apply Awp.sreg; (case hn => (simp only [List.length_cons, List.length_nil, Nat.reduceAdd] <;> rfl)))
 | (refine st_nil ?_)
 | (apply st_a; (case hc => rfl); (case he => (simp only [go_sem, *] <;> rfl)); (case hu => (simp only [updL_nil, updL_cons] <;> rfl)); (case hp => first | trivial))
 | (apply st_m; (case hc => rfl); (case hg => (simp only [go_sem, *] <;> rfl)); (case he => (intro hQz; (try simp only [wantB_t, wantB_f, Bool.and_eq_true, Bool.not_eq_true', Bool.not_true, Bool.not_false, and_true, true_and] at hQz); simp only [go_sem, *] <;> rfl)); (case hp => (intro hQz; (try simp only [wantB_t, wantB_f, Bool.and_eq_true, Bool.not_eq_true', Bool.or_eq_false_iff, decide_eq_true_eq, decide_eq_false_iff_not, beq_iff_eq, beq_eq_false_iff_ne, bne_iff_ne, bne_eq_false_iff_eq, Int.not_lt, Int.not_le, Int.ofNat_lt, Int.ofNat_le] at hQz); first | trivial)))
 | (refine Awp.ret ?_; try simp only [go_sem, *]))
  all_goals repeat' (first | exact Lower.bool (by first | rfl | (simp only [roverB, Bool.true_and, Bool.false_and, Bool.and_true, Bool.and_false, Bool.true_or, Bool.false_or, reduceIte, Bool.false_eq_true, *]; done) | (simp only [roverB, reduceIte, Bool.false_eq_true, *] <;> rfl) | (simp [roverB]; done) | (simp_all [roverB]; done) | omega))
def roffB (q : By) (x : Sty) : Bool := !(decide (0 ≤ x.x) && decide (x.x ≤ IntKind.i64.wrap (q.len - x.len))) || !(decide (0 ≤ x.y) && decide (x.y ≤ IntKind.i64.wrap (q.wid - x.wid)))
theorem roffB_eq (q : By) (x : Sty) : roffB q x = offB q x := by
  rw [Bool.eq_iff_iff]
  simp only [roffB, offB, Bool.or_eq_true, Bool.not_eq_true', Bool.and_eq_false_iff, decide_eq_true_eq, decide_eq_false_iff_not]
  omega
theorem any_end {α : Type} {p : α → Bool} {l : List α} {d : α} {i : Nat} (h : l.length ≤ i) (hj : ∀ j, j < i → p (l.getD j d) = false) : l.any p = false := by
  rw [Bool.eq_false_iff]
  intro h2
  obtain ⟨x, hx, hpx⟩ := List.any_eq_true.1 h2
  obtain ⟨j, hjl, rfl⟩ := List.getElem_of_mem hx
  have := hj j (by omega)
  rw [List.getD_eq_getElem?_getD, List.getElem?_eq_getElem hjl, Option.getD_some, hpx] at this
  cases this
theorem any_in {α : Type} {p : α → Bool} {l : List α} {d : α} {i : Nat} (h : i < l.length) (hp : p (l.getD i d) = true) : l.any p = true := by
  refine List.any_eq_true.2 ⟨l[i], List.getElem_mem h, ?_⟩
  simpa [List.getD_eq_getElem?_getD, h] using hp
theorem rstay_ok (bs : List By) (l : List Sty) (x : Sty) (hb : bs.length < 1000000) (hl : l.length < 1000000) (hx : x.item.size < 1000000) : Pure Tryz.prog 56 [.sl (bys bs), .sl (stys l), x.av] (.v (.int .i64 (stayE bs l x))) := by
  have c0 := rfind_ok bs x.bay hb
  have c1 := risid_ok x.item hx
  unfold stayE findB
  generalize hI : idxF (fun q : By => q.nm.toList == x.bay.toList) bs = I at *
  by_cases h1 : idB x.item = true
  case neg =>
    have h1' : idB x.item = false := by simpa using h1
    refine fn_pure Tryz.F56 (Nat.le_of_ble_eq_true rfl) ?_; unfold Tryz.ac56 AR AM AO
    repeat' (first
 | (apply Awp.sreg; (case hn => (simp only [List.length_cons, List.length_nil, Nat.reduceAdd] <;> rfl)))
 | (refine st_nil ?_)
 | (apply st_a; (case hc => rfl); (case he => (simp only [go_sem, *] <;> rfl)); (case hu => (simp only [updL_nil, updL_cons] <;> rfl)); (case hp => first | trivial))
 | (apply st_c; (case hc => (simp only [go_sem, *] <;> rfl)); (case hl => (simp only [go_sem, *] <;> rfl)); (case hn => (simp only [go_sem, *] <;> rfl)); (case hp => first | exact c1 | (have hXz := c1; simp only [go_sem, *] at hXz; exact hXz)))
 | (refine Awp.ret ?_; try simp only [go_sem, *])
 | (apply Awp.cond; (case hc => (simp only [go_sem, *] <;> rfl)); all_goals (intro hg; (try simp only [Bool.not_true, Bool.not_false, reduceCtorEq] at hg)))
 | refine Awp.seq ?_)
    all_goals repeat' (first | exact Lower.int (by first | rfl | (simp only [true_and, Bool.true_and, Bool.false_and, Bool.and_true, Bool.and_false, Bool.true_or, Bool.false_or, reduceIte, Bool.false_eq_true, *]; done) | (simp only [true_and, reduceIte, Bool.false_eq_true, *] <;> rfl) | (simp [true_and]; done) | (simp_all [true_and]; done) | omega))
  by_cases h0 : I < 0
  · refine fn_pure Tryz.F56 (Nat.le_of_ble_eq_true rfl) ?_; unfold Tryz.ac56 AR AM AO
    repeat' (first
 | (apply Awp.sreg; (case hn => (simp only [List.length_cons, List.length_nil, Nat.reduceAdd] <;> rfl)))
 | (refine st_nil ?_)
 | (apply st_a; (case hc => rfl); (case he => (simp only [go_sem, *] <;> rfl)); (case hu => (simp only [updL_nil, updL_cons] <;> rfl)); (case hp => first | trivial))
 | (apply st_c; (case hc => (simp only [go_sem, *] <;> rfl)); (case hl => (simp only [go_sem, *] <;> rfl)); (case hn => (simp only [go_sem, *] <;> rfl)); (case hp => first | exact c1 | (have hXz := c1; simp only [go_sem, *] at hXz; exact hXz)))
 | (apply st_c; (case hc => (simp only [go_sem, *] <;> rfl)); (case hl => (simp only [go_sem, *] <;> rfl)); (case hn => (simp only [go_sem, *] <;> rfl)); (case hp => first | exact c0 | (have hXz := c0; simp only [go_sem, *] at hXz; exact hXz)))
 | (refine Awp.ret ?_; try simp only [go_sem, *])
 | (refine Awp.skip ?_; try simp only [go_sem, *])
 | (apply Awp.cond; (case hc => (simp only [go_sem, *] <;> rfl)); all_goals (intro hg; (try simp only [Bool.not_true, Bool.not_false, reduceCtorEq] at hg)))
 | refine Awp.seq ?_)
    all_goals repeat' (first | exact Lower.int (by first | rfl | (simp only [true_and, Bool.true_and, Bool.false_and, Bool.and_true, Bool.and_false, Bool.true_or, Bool.false_or, reduceIte, Bool.false_eq_true, *]; done) | (simp only [true_and, reduceIte, Bool.false_eq_true, *] <;> rfl) | (simp [true_and]; done) | (simp_all [true_and]; done) | omega))
  have hlt : I.toNat < bs.length := by
    unfold idxF at hI
    split at hI <;> omega
  have hat := bys_at bs I.toNat hlt
  have hz : ((bs.getD I.toNat zeroBy).cells).length = 3 := rfl
  have hlt' : I < bs.length := by omega
  have h0' : 0 ≤ I := by omega
  generalize bs.getD I.toNat zeroBy = q at *
  cases h2 : rngB x
  case true =>
    have h2' := h2
    unfold rngB sideB at h2'
    refine fn_pure Tryz.F56 (Nat.le_of_ble_eq_true rfl) ?_; unfold Tryz.ac56 AR AM AO
    repeat' (first
 | (apply Awp.sreg; (case hn => (simp only [List.length_cons, List.length_nil, Nat.reduceAdd] <;> rfl)))
 | (refine st_nil ?_)
 | (apply st_a; (case hc => rfl); (case he => (simp only [go_sem, *] <;> rfl)); (case hu => (simp only [updL_nil, updL_cons] <;> rfl)); (case hp => first | trivial))
 | (apply st_m; (case hc => rfl); (case hg => (simp only [go_sem, *] <;> rfl)); (case he => (intro hQz; (try simp only [wantB_t, wantB_f, Bool.and_eq_true, Bool.not_eq_true', Bool.not_true, Bool.not_false, and_true, true_and] at hQz); simp only [go_sem, *] <;> rfl)); (case hp => (intro hQz; (try simp only [wantB_t, wantB_f, Bool.and_eq_true, Bool.not_eq_true', Bool.or_eq_false_iff, decide_eq_true_eq, decide_eq_false_iff_not, beq_iff_eq, beq_eq_false_iff_ne, bne_iff_ne, bne_eq_false_iff_eq, Int.not_lt, Int.not_le, Int.ofNat_lt, Int.ofNat_le] at hQz); first | trivial)))
 | (apply st_c; (case hc => (simp only [go_sem, *] <;> rfl)); (case hl => (simp only [go_sem, *] <;> rfl)); (case hn => (simp only [go_sem, *] <;> rfl)); (case hp => first | exact c1 | (have hXz := c1; simp only [go_sem, *] at hXz; exact hXz)))
 | (apply st_c; (case hc => (simp only [go_sem, *] <;> rfl)); (case hl => (simp only [go_sem, *] <;> rfl)); (case hn => (simp only [go_sem, *] <;> rfl)); (case hp => first | exact c0 | (have hXz := c0; simp only [go_sem, *] at hXz; exact hXz)))
 | (apply st_mc; (case hop => rfl); (case hg => (simp only [go_sem, *] <;> rfl)); (case hc => (intro hQz; (try simp only [wantB_t, wantB_f, Bool.and_eq_true, Bool.not_eq_true', Bool.not_true, Bool.not_false, and_true, true_and] at hQz); simp only [go_sem, *] <;> rfl)); (case hl => (intro hQz; (try simp only [wantB_t, wantB_f, Bool.and_eq_true, Bool.not_eq_true', Bool.not_true, Bool.not_false, and_true, true_and] at hQz); simp only [go_sem, *] <;> rfl)); (case hn => (intro hQz; (try simp only [wantB_t, wantB_f, Bool.and_eq_true, Bool.not_eq_true', Bool.not_true, Bool.not_false, and_true, true_and] at hQz); simp only [go_sem, *] <;> rfl)); (case hp => intro hQz; first | exact in_ok _ _ _ | (have hXz := in_ok _ _ _; simp only [go_sem, *] at hXz; exact hXz)))
 | (apply st_c; (case hc => (simp only [go_sem, *] <;> rfl)); (case hl => (simp only [go_sem, *] <;> rfl)); (case hn => (simp only [go_sem, *] <;> rfl)); (case hp => first | exact in_ok _ _ _ | (have hXz := in_ok _ _ _; simp only [go_sem, *] at hXz; exact hXz)))
 | (refine Awp.ret ?_; try simp only [go_sem, *])
 | (refine Awp.skip ?_; try simp only [go_sem, *])
 | (apply Awp.cond; (case hc => (simp only [go_sem, *] <;> rfl)); all_goals (intro hg; (try simp only [Bool.not_true, Bool.not_false, reduceCtorEq] at hg)))
 | refine Awp.seq ?_)
    all_goals repeat' (first | exact Lower.int (by first | rfl | (simp only [true_and, Bool.true_and, Bool.false_and, Bool.and_true, Bool.and_false, Bool.true_or, Bool.false_or, reduceIte, Bool.false_eq_true, *]; done) | (simp only [true_and, reduceIte, Bool.false_eq_true, *] <;> rfl) | (simp [true_and]; done) | (simp_all [true_and]; done) | omega))
  have h2' := h2
  unfold rngB sideB at h2'
  cases h3 : offB q x
  case true =>
    have h3' := h3
    rw [← roffB_eq] at h3'
    unfold roffB at h3'
    rcases Bool.or_eq_true_iff.1 h3' with hA | hA
    · clear h3'
      refine fn_pure Tryz.F56 (Nat.le_of_ble_eq_true rfl) ?_; unfold Tryz.ac56 AR AM AO
      repeat' (first
 | (apply Awp.sreg; (case hn => (simp only [List.length_cons, List.length_nil, Nat.reduceAdd] <;> rfl)))
 | (apply Awp.sdraw; (case hn => (simp only [List.length_cons, List.length_nil, Nat.reduceAdd] <;> rfl)))
 | (refine st_nil ?_)
 | (apply st_a; (case hc => rfl); (case he => (simp only [go_sem, *] <;> rfl)); (case hu => (simp only [updL_nil, updL_cons] <;> rfl)); (case hp => first | trivial))
 | (apply st_m; (case hc => rfl); (case hg => (simp only [go_sem, *] <;> rfl)); (case he => (intro hQz; (try simp only [wantB_t, wantB_f, Bool.and_eq_true, Bool.not_eq_true', Bool.not_true, Bool.not_false, and_true, true_and] at hQz); simp only [go_sem, *] <;> rfl)); (case hp => (intro hQz; (try simp only [wantB_t, wantB_f, Bool.and_eq_true, Bool.not_eq_true', Bool.or_eq_false_iff, decide_eq_true_eq, decide_eq_false_iff_not, beq_iff_eq, beq_eq_false_iff_ne, bne_iff_ne, bne_eq_false_iff_eq, Int.not_lt, Int.not_le, Int.ofNat_lt, Int.ofNat_le] at hQz); first | trivial)))
 | (apply st_c; (case hc => (simp only [go_sem, *] <;> rfl)); (case hl => (simp only [go_sem, *] <;> rfl)); (case hn => (simp only [go_sem, *] <;> rfl)); (case hp => first | exact c1 | (have hXz := c1; simp only [go_sem, *] at hXz; exact hXz)))
 | (apply st_c; (case hc => (simp only [go_sem, *] <;> rfl)); (case hl => (simp only [go_sem, *] <;> rfl)); (case hn => (simp only [go_sem, *] <;> rfl)); (case hp => first | exact c0 | (have hXz := c0; simp only [go_sem, *] at hXz; exact hXz)))
 | (apply st_mc; (case hop => rfl); (case hg => (simp only [go_sem, *] <;> rfl)); (case hc => (intro hQz; (try simp only [wantB_t, wantB_f, Bool.and_eq_true, Bool.not_eq_true', Bool.not_true, Bool.not_false, and_true, true_and] at hQz); simp only [go_sem, *] <;> rfl)); (case hl => (intro hQz; (try simp only [wantB_t, wantB_f, Bool.and_eq_true, Bool.not_eq_true', Bool.not_true, Bool.not_false, and_true, true_and] at hQz); simp only [go_sem, *] <;> rfl)); (case hn => (intro hQz; (try simp only [wantB_t, wantB_f, Bool.and_eq_true, Bool.not_eq_true', Bool.not_true, Bool.not_false, and_true, true_and] at hQz); simp only [go_sem, *] <;> rfl)); (case hp => intro hQz; first | exact in_ok _ _ _ | (have hXz := in_ok _ _ _; simp only [go_sem, *] at hXz; exact hXz)))
 | (apply st_c; (case hc => (simp only [go_sem, *] <;> rfl)); (case hl => (simp only [go_sem, *] <;> rfl)); (case hn => (simp only [go_sem, *] <;> rfl)); (case hp => first | exact in_ok _ _ _ | (have hXz := in_ok _ _ _; simp only [go_sem, *] at hXz; exact hXz)))
 | (refine Awp.ret ?_; try simp only [go_sem, *])
 | (refine Awp.skip ?_; try simp only [go_sem, *])
 | (apply Awp.cond; (case hc => (simp only [go_sem, *] <;> rfl)); all_goals (intro hg; (try simp only [Bool.not_true, Bool.not_false, reduceCtorEq] at hg)))
 | refine Awp.seq ?_
 | (apply sl_a; (case hc => rfl); (case he => (simp only [go_sem, *] <;> rfl)); (case hu => (simp only [updL_nil, updL_cons] <;> rfl)); (case hl => (simp only [List.map_cons, List.map_nil] <;> rfl)); (case hp => first | trivial))
 | (apply sl_gn; (case hv => (simp only [go_sem, *] <;> rfl)); (case hbw => rfl))
 | (apply sl_c; (case hc => (simp only [go_sem, *] <;> rfl)); (case hl => (simp only [go_sem, *] <;> rfl)); (case hn => (simp only [go_sem, *] <;> rfl)); (case hp => first | exact in_ok _ _ _ | (have hXz := in_ok _ _ _; simp only [go_sem, *] at hXz; exact hXz)); (case hd => first | exact .inl rfl | exact .inr (.v _) | exact .inr .any | exact .inr .nils | (refine .inr ?_; (repeat' (first | exact Dry.v _ | exact Dry.any | exact Dry.nils | exact Dry.slE | refine Dry.agg ?_ | refine Dry.tup ?_ | (refine List.forall_mem_cons.2 (And.intro ?_ ?_)) | (intro cQ hQ; cases hQ; done))); done)); (case hm => first | decide | (simp; done)))
 | (refine sl_nil (And.intro (by first | exact drawOk_of (by decide +kernel) | (simp only [List.map_cons, List.map_nil]; exact drawOk_of (by decide +kernel)) | decide) ?_)))
      all_goals repeat' (first | exact Lower.int (by first | rfl | (simp only [true_and, Bool.true_and, Bool.false_and, Bool.and_true, Bool.and_false, Bool.true_or, Bool.false_or, reduceIte, Bool.false_eq_true, *]; done) | (simp only [true_and, reduceIte, Bool.false_eq_true, *] <;> rfl) | (simp [true_and]; done) | (simp_all [true_and]; done) | omega))
    · cases hB : (!(decide (0 ≤ x.x) && decide (x.x ≤ IntKind.i64.wrap (q.len - x.len))))
      · clear h3'
        refine fn_pure Tryz.F56 (Nat.le_of_ble_eq_true rfl) ?_; unfold Tryz.ac56 AR AM AO
        repeat' (first
 | (apply Awp.sreg; (case hn => (simp only [List.length_cons, List.length_nil, Nat.reduceAdd] <;> rfl)))
 | (apply Awp.sdraw; (case hn => (simp only [List.length_cons, List.length_nil, Nat.reduceAdd] <;> rfl)))
 | (refine st_nil ?_)
 | (apply st_a; (case hc => rfl); (case he => (simp only [go_sem, *] <;> rfl)); (case hu => (simp only [updL_nil, updL_cons] <;> rfl)); (case hp => first | trivial))
 | (apply st_m; (case hc => rfl); (case hg => (simp only [go_sem, *] <;> rfl)); (case he => (intro hQz; (try simp only [wantB_t, wantB_f, Bool.and_eq_true, Bool.not_eq_true', Bool.not_true, Bool.not_false, and_true, true_and] at hQz); simp only [go_sem, *] <;> rfl)); (case hp => (intro hQz; (try simp only [wantB_t, wantB_f, Bool.and_eq_true, Bool.not_eq_true', Bool.or_eq_false_iff, decide_eq_true_eq, decide_eq_false_iff_not, beq_iff_eq, beq_eq_false_iff_ne, bne_iff_ne, bne_eq_false_iff_eq, Int.not_lt, Int.not_le, Int.ofNat_lt, Int.ofNat_le] at hQz); first | trivial)))
 | (apply st_c; (case hc => (simp only [go_sem, *] <;> rfl)); (case hl => (simp only [go_sem, *] <;> rfl)); (case hn => (simp only [go_sem, *] <;> rfl)); (case hp => first | exact c1 | (have hXz := c1; simp only [go_sem, *] at hXz; exact hXz)))
 | (apply st_c; (case hc => (simp only [go_sem, *] <;> rfl)); (case hl => (simp only [go_sem, *] <;> rfl)); (case hn => (simp only [go_sem, *] <;> rfl)); (case hp => first | exact c0 | (have hXz := c0; simp only [go_sem, *] at hXz; exact hXz)))
 | (apply st_mc; (case hop => rfl); (case hg => (simp only [go_sem, *] <;> rfl)); (case hc => (intro hQz; (try simp only [wantB_t, wantB_f, Bool.and_eq_true, Bool.not_eq_true', Bool.not_true, Bool.not_false, and_true, true_and] at hQz); simp only [go_sem, *] <;> rfl)); (case hl => (intro hQz; (try simp only [wantB_t, wantB_f, Bool.and_eq_true, Bool.not_eq_true', Bool.not_true, Bool.not_false, and_true, true_and] at hQz); simp only [go_sem, *] <;> rfl)); (case hn => (intro hQz; (try simp only [wantB_t, wantB_f, Bool.and_eq_true, Bool.not_eq_true', Bool.not_true, Bool.not_false, and_true, true_and] at hQz); simp only [go_sem, *] <;> rfl)); (case hp => intro hQz; first | exact in_ok _ _ _ | (have hXz := in_ok _ _ _; simp only [go_sem, *] at hXz; exact hXz)))
 | (apply st_c; (case hc => (simp only [go_sem, *] <;> rfl)); (case hl => (simp only [go_sem, *] <;> rfl)); (case hn => (simp only [go_sem, *] <;> rfl)); (case hp => first | exact in_ok _ _ _ | (have hXz := in_ok _ _ _; simp only [go_sem, *] at hXz; exact hXz)))
 | (refine Awp.ret ?_; try simp only [go_sem, *])
 | (refine Awp.skip ?_; try simp only [go_sem, *])
 | (apply Awp.cond; (case hc => (simp only [go_sem, *] <;> rfl)); all_goals (intro hg; (try simp only [Bool.not_true, Bool.not_false, reduceCtorEq] at hg)))
 | refine Awp.seq ?_
 | (apply sl_a; (case hc => rfl); (case he => (simp only [go_sem, *] <;> rfl)); (case hu => (simp only [updL_nil, updL_cons] <;> rfl)); (case hl => (simp only [List.map_cons, List.map_nil] <;> rfl)); (case hp => first | trivial))
 | (apply sl_ga; (case hb => rfl); (case hv => (simp only [go_sem, *] <;> rfl)); (case he => (simp only [go_sem, *] <;> rfl)); (case hu => (simp only [updL_nil, updL_cons] <;> rfl)); (case hl => (simp only [List.map_cons, List.map_nil] <;> rfl)); (case hp => first | trivial))
 | (apply sl_c; (case hc => (simp only [go_sem, *] <;> rfl)); (case hl => (simp only [go_sem, *] <;> rfl)); (case hn => (simp only [go_sem, *] <;> rfl)); (case hp => first | exact in_ok _ _ _ | (have hXz := in_ok _ _ _; simp only [go_sem, *] at hXz; exact hXz)); (case hd => first | exact .inl rfl | exact .inr (.v _) | exact .inr .any | exact .inr .nils | (refine .inr ?_; (repeat' (first | exact Dry.v _ | exact Dry.any | exact Dry.nils | exact Dry.slE | refine Dry.agg ?_ | refine Dry.tup ?_ | (refine List.forall_mem_cons.2 (And.intro ?_ ?_)) | (intro cQ hQ; cases hQ; done))); done)); (case hm => first | decide | (simp; done)))
 | (apply sl_cg; (case hop => rfl); (case hv => (simp only [go_sem, *] <;> rfl)); (case hc => (simp only [go_sem, *] <;> rfl)); (case hl => (simp only [go_sem, *] <;> rfl)); (case hn => (simp only [go_sem, *] <;> rfl)); (case hp => first | exact in_ok _ _ _ | (have hXz := in_ok _ _ _; simp only [go_sem, *] at hXz; exact hXz)); (case hd => first | exact .inl rfl | exact .inr (.v _) | exact .inr .any | exact .inr .nils | (refine .inr ?_; (repeat' (first | exact Dry.v _ | exact Dry.any | exact Dry.nils | exact Dry.slE | refine Dry.agg ?_ | refine Dry.tup ?_ | (refine List.forall_mem_cons.2 (And.intro ?_ ?_)) | (intro cQ hQ; cases hQ; done))); done)); (case hm => first | decide | (simp; done)))
 | (refine sl_nil (And.intro (by first | exact drawOk_of (by decide +kernel) | (simp only [List.map_cons, List.map_nil]; exact drawOk_of (by decide +kernel)) | decide) ?_)))
        all_goals repeat' (first | exact Lower.int (by first | rfl | (simp only [true_and, Bool.true_and, Bool.false_and, Bool.and_true, Bool.and_false, Bool.true_or, Bool.false_or, reduceIte, Bool.false_eq_true, *]; done) | (simp only [true_and, reduceIte, Bool.false_eq_true, *] <;> rfl) | (simp [true_and]; done) | (simp_all [true_and]; done) | omega))
      · clear h3' hA
        refine fn_pure Tryz.F56 (Nat.le_of_ble_eq_true rfl) ?_; unfold Tryz.ac56 AR AM AO
        repeat' (first
 | (apply Awp.sreg; (case hn => (simp only [List.length_cons, List.length_nil, Nat.reduceAdd] <;> rfl)))
 | (apply Awp.sdraw; (case hn => (simp only [List.length_cons, List.length_nil, Nat.reduceAdd] <;> rfl)))
 | (refine st_nil ?_)
 | (apply st_a; (case hc => rfl); (case he => (simp only [go_sem, *] <;> rfl)); (case hu => (simp only [updL_nil, updL_cons] <;> rfl)); (case hp => first | trivial))
 | (apply st_m; (case hc => rfl); (case hg => (simp only [go_sem, *] <;> rfl)); (case he => (intro hQz; (try simp only [wantB_t, wantB_f, Bool.and_eq_true, Bool.not_eq_true', Bool.not_true, Bool.not_false, and_true, true_and] at hQz); simp only [go_sem, *] <;> rfl)); (case hp => (intro hQz; (try simp only [wantB_t, wantB_f, Bool.and_eq_true, Bool.not_eq_true', Bool.or_eq_false_iff, decide_eq_true_eq, decide_eq_false_iff_not, beq_iff_eq, beq_eq_false_iff_ne, bne_iff_ne, bne_eq_false_iff_eq, Int.not_lt, Int.not_le, Int.ofNat_lt, Int.ofNat_le] at hQz); first | trivial)))
 | (apply st_c; (case hc => (simp only [go_sem, *] <;> rfl)); (case hl => (simp only [go_sem, *] <;> rfl)); (case hn => (simp only [go_sem, *] <;> rfl)); (case hp => first | exact c1 | (have hXz := c1; simp only [go_sem, *] at hXz; exact hXz)))
 | (apply st_c; (case hc => (simp only [go_sem, *] <;> rfl)); (case hl => (simp only [go_sem, *] <;> rfl)); (case hn => (simp only [go_sem, *] <;> rfl)); (case hp => first | exact c0 | (have hXz := c0; simp only [go_sem, *] at hXz; exact hXz)))
 | (apply st_mc; (case hop => rfl); (case hg => (simp only [go_sem, *] <;> rfl)); (case hc => (intro hQz; (try simp only [wantB_t, wantB_f, Bool.and_eq_true, Bool.not_eq_true', Bool.not_true, Bool.not_false, and_true, true_and] at hQz); simp only [go_sem, *] <;> rfl)); (case hl => (intro hQz; (try simp only [wantB_t, wantB_f, Bool.and_eq_true, Bool.not_eq_true', Bool.not_true, Bool.not_false, and_true, true_and] at hQz); simp only [go_sem, *] <;> rfl)); (case hn => (intro hQz; (try simp only [wantB_t, wantB_f, Bool.and_eq_true, Bool.not_eq_true', Bool.not_true, Bool.not_false, and_true, true_and] at hQz); simp only [go_sem, *] <;> rfl)); (case hp => intro hQz; first | exact in_ok _ _ _ | (have hXz := in_ok _ _ _; simp only [go_sem, *] at hXz; exact hXz)))
 | (apply st_c; (case hc => (simp only [go_sem, *] <;> rfl)); (case hl => (simp only [go_sem, *] <;> rfl)); (case hn => (simp only [go_sem, *] <;> rfl)); (case hp => first | exact in_ok _ _ _ | (have hXz := in_ok _ _ _; simp only [go_sem, *] at hXz; exact hXz)))
 | (refine Awp.ret ?_; try simp only [go_sem, *])
 | (refine Awp.skip ?_; try simp only [go_sem, *])
 | (apply Awp.cond; (case hc => (simp only [go_sem, *] <;> rfl)); all_goals (intro hg; (try simp only [Bool.not_true, Bool.not_false, reduceCtorEq] at hg)))
 | refine Awp.seq ?_
 | (apply sl_a; (case hc => rfl); (case he => (simp only [go_sem, *] <;> rfl)); (case hu => (simp only [updL_nil, updL_cons] <;> rfl)); (case hl => (simp only [List.map_cons, List.map_nil] <;> rfl)); (case hp => first | trivial))
 | (apply sl_gn; (case hv => (simp only [go_sem, *] <;> rfl)); (case hbw => rfl))
 | (apply sl_c; (case hc => (simp only [go_sem, *] <;> rfl)); (case hl => (simp only [go_sem, *] <;> rfl)); (case hn => (simp only [go_sem, *] <;> rfl)); (case hp => first | exact in_ok _ _ _ | (have hXz := in_ok _ _ _; simp only [go_sem, *] at hXz; exact hXz)); (case hd => first | exact .inl rfl | exact .inr (.v _) | exact .inr .any | exact .inr .nils | (refine .inr ?_; (repeat' (first | exact Dry.v _ | exact Dry.any | exact Dry.nils | exact Dry.slE | refine Dry.agg ?_ | refine Dry.tup ?_ | (refine List.forall_mem_cons.2 (And.intro ?_ ?_)) | (intro cQ hQ; cases hQ; done))); done)); (case hm => first | decide | (simp; done)))
 | (refine sl_nil (And.intro (by first | exact drawOk_of (by decide +kernel) | (simp only [List.map_cons, List.map_nil]; exact drawOk_of (by decide +kernel)) | decide) ?_)))
        all_goals repeat' (first | exact Lower.int (by first | rfl | (simp only [true_and, Bool.true_and, Bool.false_and, Bool.and_true, Bool.and_false, Bool.true_or, Bool.false_or, reduceIte, Bool.false_eq_true, *]; done) | (simp only [true_and, reduceIte, Bool.false_eq_true, *] <;> rfl) | (simp [true_and]; done) | (simp_all [true_and]; done) | omega))
  have h3' := h3
  rw [← roffB_eq] at h3'
  unfold roffB at h3'
  obtain ⟨hA, hB⟩ := Bool.or_eq_false_iff.1 h3'
  clear h3'
  refine fn_pure Tryz.F56 (Nat.le_of_ble_eq_true rfl) ?_; unfold Tryz.ac56 AR AM AO
  repeat' (first
 | (apply Awp.sreg; (case hn => (simp only [List.length_cons, List.length_nil, Nat.reduceAdd] <;> rfl)))
 | (apply Awp.sdraw; (case hn => (simp only [List.length_cons, List.length_nil, Nat.reduceAdd] <;> rfl)))
 | (refine st_nil ?_)
 | (apply st_a; (case hc => rfl); (case he => (simp only [go_sem, *] <;> rfl)); (case hu => (simp only [updL_nil, updL_cons] <;> rfl)); (case hp => first | trivial))
 | (apply st_m; (case hc => rfl); (case hg => (simp only [go_sem, *] <;> rfl)); (case he => (intro hQz; (try simp only [wantB_t, wantB_f, Bool.and_eq_true, Bool.not_eq_true', Bool.not_true, Bool.not_false, and_true, true_and] at hQz); simp only [go_sem, *] <;> rfl)); (case hp => (intro hQz; (try simp only [wantB_t, wantB_f, Bool.and_eq_true, Bool.not_eq_true', Bool.or_eq_false_iff, decide_eq_true_eq, decide_eq_false_iff_not, beq_iff_eq, beq_eq_false_iff_ne, bne_iff_ne, bne_eq_false_iff_eq, Int.not_lt, Int.not_le, Int.ofNat_lt, Int.ofNat_le] at hQz); first | trivial)))
 | (apply st_c; (case hc => (simp only [go_sem, *] <;> rfl)); (case hl => (simp only [go_sem, *] <;> rfl)); (case hn => (simp only [go_sem, *] <;> rfl)); (case hp => first | exact c1 | (have hXz := c1; simp only [go_sem, *] at hXz; exact hXz)))
 | (apply st_c; (case hc => (simp only [go_sem, *] <;> rfl)); (case hl => (simp only [go_sem, *] <;> rfl)); (case hn => (simp only [go_sem, *] <;> rfl)); (case hp => first | exact c0 | (have hXz := c0; simp only [go_sem, *] at hXz; exact hXz)))
 | (apply st_mc; (case hop => rfl); (case hg => (simp only [go_sem, *] <;> rfl)); (case hc => (intro hQz; (try simp only [wantB_t, wantB_f, Bool.and_eq_true, Bool.not_eq_true', Bool.not_true, Bool.not_false, and_true, true_and] at hQz); simp only [go_sem, *] <;> rfl)); (case hl => (intro hQz; (try simp only [wantB_t, wantB_f, Bool.and_eq_true, Bool.not_eq_true', Bool.not_true, Bool.not_false, and_true, true_and] at hQz); simp only [go_sem, *] <;> rfl)); (case hn => (intro hQz; (try simp only [wantB_t, wantB_f, Bool.and_eq_true, Bool.not_eq_true', Bool.not_true, Bool.not_false, and_true, true_and] at hQz); simp only [go_sem, *] <;> rfl)); (case hp => intro hQz; first | exact in_ok _ _ _ | (have hXz := in_ok _ _ _; simp only [go_sem, *] at hXz; exact hXz)))
 | (apply st_c; (case hc => (simp only [go_sem, *] <;> rfl)); (case hl => (simp only [go_sem, *] <;> rfl)); (case hn => (simp only [go_sem, *] <;> rfl)); (case hp => first | exact in_ok _ _ _ | (have hXz := in_ok _ _ _; simp only [go_sem, *] at hXz; exact hXz)))
 | (refine Awp.skip ?_; try simp only [go_sem, *])
 | refine Awp.block ?_
 | (apply Awp.cond; (case hc => (simp only [go_sem, *] <;> rfl)); all_goals (intro hg; (try simp only [Bool.not_true, Bool.not_false, reduceCtorEq] at hg)))
 | refine Awp.seq ?_
 | (apply sl_a; (case hc => rfl); (case he => (simp only [go_sem, *] <;> rfl)); (case hu => (simp only [updL_nil, updL_cons] <;> rfl)); (case hl => (simp only [List.map_cons, List.map_nil] <;> rfl)); (case hp => first | trivial))
 | (apply sl_ga; (case hb => rfl); (case hv => (simp only [go_sem, *] <;> rfl)); (case he => (simp only [go_sem, *] <;> rfl)); (case hu => (simp only [updL_nil, updL_cons] <;> rfl)); (case hl => (simp only [List.map_cons, List.map_nil] <;> rfl)); (case hp => first | trivial))
 | (apply sl_c; (case hc => (simp only [go_sem, *] <;> rfl)); (case hl => (simp only [go_sem, *] <;> rfl)); (case hn => (simp only [go_sem, *] <;> rfl)); (case hp => first | exact in_ok _ _ _ | (have hXz := in_ok _ _ _; simp only [go_sem, *] at hXz; exact hXz)); (case hd => first | exact .inl rfl | exact .inr (.v _) | exact .inr .any | exact .inr .nils | (refine .inr ?_; (repeat' (first | exact Dry.v _ | exact Dry.any | exact Dry.nils | exact Dry.slE | refine Dry.agg ?_ | refine Dry.tup ?_ | (refine List.forall_mem_cons.2 (And.intro ?_ ?_)) | (intro cQ hQ; cases hQ; done))); done)); (case hm => first | decide | (simp; done)))
 | (apply sl_cg; (case hop => rfl); (case hv => (simp only [go_sem, *] <;> rfl)); (case hc => (simp only [go_sem, *] <;> rfl)); (case hl => (simp only [go_sem, *] <;> rfl)); (case hn => (simp only [go_sem, *] <;> rfl)); (case hp => first | exact in_ok _ _ _ | (have hXz := in_ok _ _ _; simp only [go_sem, *] at hXz; exact hXz)); (case hd => first | exact .inl rfl | exact .inr (.v _) | exact .inr .any | exact .inr .nils | (refine .inr ?_; (repeat' (first | exact Dry.v _ | exact Dry.any | exact Dry.nils | exact Dry.slE | refine Dry.agg ?_ | refine Dry.tup ?_ | (refine List.forall_mem_cons.2 (And.intro ?_ ?_)) | (intro cQ hQ; cases hQ; done))); done)); (case hm => first | decide | (simp; done)))
 | (refine sl_nil (And.intro (by first | exact drawOk_of (by decide +kernel) | (simp only [List.map_cons, List.map_nil]; exact drawOk_of (by decide +kernel)) | decide) ?_)))
  refine Awp.loop (fun i : Nat => i ≤ l.length ∧ ∀ j, j < i → overB x (l.getD j zeroSty) = false) 90 (fun i => mkS [(1, .sl (stys l)), (5, .bp 0 0), (8, .v (.int .i64 i))] [(0, .box x.cells)]) (fun i => l.length - i) 0 (by simp) ?_ ?_
  · (apply Ghost.mk [] []; (case hdead => rfl); (case hinj => rfl); (case hV => (simp only [go_sem, *]) <;> (repeat' (first | refine And.intro ?_ ?_ | exact View.int (by first | rfl | omega | (simp; done) | (rw [wrap_i64] <;> (try simp only [Int.natCast_add]) <;> omega) | (simp [*]; done)) | exact .bp rfl (by decide)))); (case hB => (simp only [go_sem, *]) <;> (repeat' (first | exact ⟨_, rfl, BView.boxF rfl⟩))))
  · intro i ⟨hi, hj⟩
    by_cases hli : i < l.length
    · have hli' : (i : Int) < l.length := by omega
      have hat2 := stys_at l i hli
      have hz2 : ((l.getD i zeroSty).cells).length = 8 := rfl
      have c3 := rover_ok (l.getD i zeroSty) x
      clear c0 c1 hat hz h1 h2 h2' h3 hA hB hI
      cases hov : overB x (l.getD i zeroSty)
      · rw [hov] at c3
        repeat' (first
 | (apply Awp.sreg; (case hn => (simp only [List.length_cons, List.length_nil, Nat.reduceAdd] <;> rfl)))
 | (apply Awp.sdraw; (case hn => (simp only [List.length_cons, List.length_nil, Nat.reduceAdd] <;> rfl)))
 | (refine st_nil ?_)
 | (apply st_a; (case hc => rfl); (case he => (simp only [go_sem, *] <;> rfl)); (case hu => (simp only [updL_nil, updL_cons] <;> rfl)); (case hp => first | trivial))
 | (apply Awp.reg; (case hn => (simp only [List.length_cons, List.length_nil, Nat.reduceAdd] <;> rfl)))
 | (refine Awp.skip ?_; try simp only [go_sem, *])
 | refine Awp.block ?_
 | (apply Awp.cond; (case hc => (simp only [go_sem, *] <;> rfl)); all_goals (intro hg; (try simp only [Bool.not_true, Bool.not_false, reduceCtorEq] at hg)))
 | refine Awp.seq ?_
 | (apply sl_a; (case hc => rfl); (case he => (simp only [go_sem, *] <;> rfl)); (case hu => (simp only [updL_nil, updL_cons] <;> rfl)); (case hl => (simp only [List.map_cons, List.map_nil] <;> rfl)); (case hp => first | trivial | omega))
 | (apply sl_c; (case hc => (simp only [go_sem, *] <;> rfl)); (case hl => (simp only [go_sem, *] <;> rfl)); (case hn => (simp only [go_sem, *] <;> rfl)); (case hp => first | exact c3 | (have hXz := c3; simp only [go_sem, *] at hXz; exact hXz)); (case hd => first | exact .inl rfl | exact .inr (.v _) | exact .inr .any | exact .inr .nils | (refine .inr ?_; (repeat' (first | exact Dry.v _ | exact Dry.any | exact Dry.nils | exact Dry.slE | refine Dry.agg ?_ | refine Dry.tup ?_ | (refine List.forall_mem_cons.2 (And.intro ?_ ?_)) | (intro cQ hQ; cases hQ; done))); done)); (case hm => first | decide | (simp; done)))
 | (refine sl_nil (And.intro (by first | exact drawOk_of (by decide +kernel) | (simp only [List.map_cons, List.map_nil]; exact drawOk_of (by decide +kernel)) | decide) ?_)))
        refine ⟨i + 1, ⟨by omega, ltSucc hj hov⟩, by omega, ?_⟩
        (apply Ghost.mk [] []; (case hdead => rfl); (case hinj => rfl); (case hV => (simp only [go_sem, *]) <;> (repeat' (first | refine And.intro ?_ ?_ | exact View.int (by first | rfl | omega | (simp; done) | (rw [wrap_i64] <;> (try simp only [Int.natCast_add]) <;> omega) | (simp [*]; done)) | exact .bp rfl (by decide)))); (case hB => (simp only [go_sem, *]) <;> (repeat' (first | exact ⟨_, rfl, BView.boxF rfl⟩))))
      · rw [hov] at c3
        have han := any_in hli hov
        repeat' (first
 | (apply Awp.sreg; (case hn => (simp only [List.length_cons, List.length_nil, Nat.reduceAdd] <;> rfl)))
 | (apply Awp.sdraw; (case hn => (simp only [List.length_cons, List.length_nil, Nat.reduceAdd] <;> rfl)))
 | (refine st_nil ?_)
 | (apply st_a; (case hc => rfl); (case he => (simp only [go_sem, *] <;> rfl)); (case hu => (simp only [updL_nil, updL_cons] <;> rfl)); (case hp => first | trivial))
 | (refine Awp.ret ?_; try simp only [go_sem, *])
 | (refine Awp.skip ?_; try simp only [go_sem, *])
 | refine Awp.block ?_
 | (apply Awp.cond; (case hc => (simp only [go_sem, *] <;> rfl)); all_goals (intro hg; (try simp only [Bool.not_true, Bool.not_false, reduceCtorEq] at hg)))
 | refine Awp.seq ?_
 | (apply sl_a; (case hc => rfl); (case he => (simp only [go_sem, *] <;> rfl)); (case hu => (simp only [updL_nil, updL_cons] <;> rfl)); (case hl => (simp only [List.map_cons, List.map_nil] <;> rfl)); (case hp => first | trivial | omega))
 | (apply sl_c; (case hc => (simp only [go_sem, *] <;> rfl)); (case hl => (simp only [go_sem, *] <;> rfl)); (case hn => (simp only [go_sem, *] <;> rfl)); (case hp => first | exact c3 | (have hXz := c3; simp only [go_sem, *] at hXz; exact hXz)); (case hd => first | exact .inl rfl | exact .inr (.v _) | exact .inr .any | exact .inr .nils | (refine .inr ?_; (repeat' (first | exact Dry.v _ | exact Dry.any | exact Dry.nils | exact Dry.slE | refine Dry.agg ?_ | refine Dry.tup ?_ | (refine List.forall_mem_cons.2 (And.intro ?_ ?_)) | (intro cQ hQ; cases hQ; done))); done)); (case hm => first | decide | (simp; done)))
 | (refine sl_nil (And.intro (by first | exact drawOk_of (by decide +kernel) | (simp only [List.map_cons, List.map_nil]; exact drawOk_of (by decide +kernel)) | decide) ?_)))
        all_goals repeat' (first | exact Lower.int (by first | rfl | (simp only [true_and, Bool.true_and, Bool.false_and, Bool.and_true, Bool.and_false, Bool.true_or, Bool.false_or, reduceIte, Bool.false_eq_true, *]; done) | (simp only [true_and, reduceIte, Bool.false_eq_true, *] <;> rfl) | (simp [true_and]; done) | (simp_all [true_and]; done) | omega))
    · have hli' : ¬ (i : Int) < l.length := by omega
      have han := any_end (Nat.le_of_not_lt hli) hj
      repeat' (first
 | (apply Awp.sreg; (case hn => (simp only [List.length_cons, List.length_nil, Nat.reduceAdd] <;> rfl)))
 | (refine st_nil ?_)
 | (apply st_a; (case hc => rfl); (case he => (simp only [go_sem, *] <;> rfl)); (case hu => (simp only [updL_nil, updL_cons] <;> rfl)); (case hp => first | trivial))
 | (refine Awp.ret ?_; try simp only [go_sem, *])
 | (refine Awp.exit ?_; try simp only [go_sem, *])
 | (apply Awp.cond; (case hc => (simp only [go_sem, *] <;> rfl)); all_goals (intro hg; (try simp only [Bool.not_true, Bool.not_false, reduceCtorEq] at hg)))
 | refine Awp.seq ?_)
      all_goals repeat' (first | exact Lower.int (by first | rfl | (simp only [true_and, Bool.true_and, Bool.false_and, Bool.and_true, Bool.and_false, Bool.true_or, Bool.false_or, reduceIte, Bool.false_eq_true, *]; done) | (simp only [true_and, reduceIte, Bool.false_eq_true, *] <;> rfl) | (simp [true_and]; done) | (simp_all [true_and]; done) | omega))
theorem findB_two (l : List By) (nm : ByteArray) : (findB l nm).2 = decide (0 ≤ idxF (fun q : By => q.nm.toList == nm.toList) l) := by
  unfold findB
  by_cases h : idxF (fun q : By => q.nm.toList == nm.toList) l < 0
  · rw [if_pos (by simpa using h)]
    symm
    simpa using h
  · rw [if_neg (by simpa using h)]
    symm
    simpa using h
theorem floors_ok (bs : List By) (hb : bs.length < 100000) : Pure Tryz.prog 55 [.sl (bys bs)] (.v (.int .i64 (firstE (bayAt bs) bs.length))) := by
  refine fn_pure Tryz.F55 (Nat.le_of_ble_eq_true rfl) ?_; unfold Tryz.ac55 AR AM AO
  repeat' (first
 | (apply Awp.sreg; (case hn => (simp only [List.length_cons, List.length_nil, Nat.reduceAdd] <;> rfl)))
 | (refine st_nil ?_)
 | (apply st_a; (case hc => rfl); (case he => (simp only [go_sem, *] <;> rfl)); (case hu => (simp only [updL_nil, updL_cons] <;> rfl)); (case hp => first | trivial))
 | refine Awp.block ?_
 | refine Awp.seq ?_)
  refine Awp.loop (fun i : Nat => i ≤ bs.length ∧ ∀ j, j < i → bayAt bs j = 0) 40 (fun i => mkS [(0, .sl (bys bs)), (3, .v (.int .i64 i))] []) (fun i => bs.length - i) 0 (by simp) ?_ ?_
  · (apply Ghost.mk [] []; (case hdead => rfl); (case hinj => rfl); (case hV => (simp only [go_sem, *]) <;> (repeat' (first | exact View.int (by first | rfl | omega | (simp; done) | (rw [wrap_i64] <;> (try simp only [Int.natCast_add]) <;> omega) | (simp [*]; done))))); (case hB => (simp only [go_sem, *]) <;> (repeat' (first | skip; done))))
  · intro i ⟨hi, hj⟩
    by_cases hlt : i < bs.length
    · have hlt' : (i : Int) < bs.length := by omega
      have hat := bys_at bs i hlt
      have hz : ((bs.getD i zeroBy).cells).length = 3 := rfl
      have h3 := bys_one bs
      have ht := bys_take bs i
      have c0 := rname_ok (bs.getD i zeroBy).nm
      have c1 := rfind_ok (bs.take i) (bs.getD i zeroBy).nm (by simp; omega)
      have hle : (i : Int) ≤ bs.length := by omega
      have h00 : (0 : Int) ≤ i := by omega
      have hF := findB_two (bs.take i) (bs.getD i zeroBy).nm
      have hbad : ∀ {e : Int}, bayAt bs i = e → e ≠ 0 → e = firstE (bayAt bs) bs.length := fun h he => by
        rw [← h, firstE_bad hlt (by rw [h]; exact he) hj]
      generalize hI : idxF (fun q : By => q.nm.toList == (bs.getD i zeroBy).nm.toList) (bs.take i) = I at *
      have hs1 : sideB (bs.getD i zeroBy).len = (decide (1 ≤ (bs.getD i zeroBy).len) && decide ((bs.getD i zeroBy).len ≤ 524288)) := rfl
      have hs2 : sideB (bs.getD i zeroBy).wid = (decide (1 ≤ (bs.getD i zeroBy).wid) && decide ((bs.getD i zeroBy).wid ≤ 524288)) := rfl
      have hba : bayAt bs i = if !nameB (bs.getD i zeroBy).nm then 6 else if !sideB (bs.getD i zeroBy).len || !sideB (bs.getD i zeroBy).wid then 9 else if decide (0 ≤ I) then 7 else 0 := by unfold bayAt; rw [hF]
      rw [hs1, hs2] at hba
      clear hs1 hs2 hF hI
      generalize nameB (bs.getD i zeroBy).nm = nb at *
      cases nb
      · repeat' (first
 | (apply Awp.sreg; (case hn => (simp only [List.length_cons, List.length_nil, Nat.reduceAdd] <;> rfl)))
 | (refine st_nil ?_)
 | (apply st_a; (case hc => rfl); (case he => (simp only [go_sem, *] <;> rfl)); (case hu => (simp only [updL_nil, updL_cons] <;> rfl)); (case hp => first | trivial))
 | (apply st_c; (case hc => (simp only [go_sem, *] <;> rfl)); (case hl => (simp only [go_sem, *] <;> rfl)); (case hn => (simp only [go_sem, *] <;> rfl)); (case hp => first | exact c0 | (have hXz := c0; simp only [go_sem, *] at hXz; exact hXz)))
 | (refine Awp.ret ?_; try simp only [go_sem, *])
 | (refine Awp.skip ?_; try simp only [go_sem, *])
 | refine Awp.block ?_
 | (apply Awp.cond; (case hc => (simp only [go_sem, *] <;> rfl)); all_goals (intro hg; (try simp only [Bool.not_true, Bool.not_false, reduceCtorEq] at hg)))
 | refine Awp.seq ?_)
        exact Lower.int (hbad hba (by decide))
      generalize hS : (!(decide (1 ≤ (bs.getD i zeroBy).len) && decide ((bs.getD i zeroBy).len ≤ 524288)) || !(decide (1 ≤ (bs.getD i zeroBy).wid) && decide ((bs.getD i zeroBy).wid ≤ 524288))) = sb at hba
      cases sb
      · cases hI : decide (0 ≤ I)
        · rw [hI] at hba
          repeat' (first
 | (apply Awp.sreg; (case hn => (simp only [List.length_cons, List.length_nil, Nat.reduceAdd] <;> rfl)))
 | (apply Awp.sdraw; (case hn => (simp only [List.length_cons, List.length_nil, Nat.reduceAdd] <;> rfl)))
 | (refine st_nil ?_)
 | (apply st_a; (case hc => rfl); (case he => (simp only [go_sem, *] <;> rfl)); (case hu => (simp only [updL_nil, updL_cons] <;> rfl)); (case hp => first | trivial))
 | (apply st_m; (case hc => rfl); (case hg => (simp only [go_sem, *] <;> rfl)); (case he => (intro hQz; (try simp only [wantB_t, wantB_f, Bool.and_eq_true, Bool.not_eq_true', Bool.not_true, Bool.not_false, and_true, true_and] at hQz); simp only [go_sem, *] <;> rfl)); (case hp => (intro hQz; (try simp only [wantB_t, wantB_f, Bool.and_eq_true, Bool.not_eq_true', Bool.or_eq_false_iff, decide_eq_true_eq, decide_eq_false_iff_not, beq_iff_eq, beq_eq_false_iff_ne, bne_iff_ne, bne_eq_false_iff_eq, Int.not_lt, Int.not_le, Int.ofNat_lt, Int.ofNat_le] at hQz); first | trivial)))
 | (apply st_c; (case hc => (simp only [go_sem, *] <;> rfl)); (case hl => (simp only [go_sem, *] <;> rfl)); (case hn => (simp only [go_sem, *] <;> rfl)); (case hp => first | exact c0 | (have hXz := c0; simp only [go_sem, *] at hXz; exact hXz)))
 | (apply st_mc; (case hop => rfl); (case hg => (simp only [go_sem, *] <;> rfl)); (case hc => (intro hQz; (try simp only [wantB_t, wantB_f, Bool.and_eq_true, Bool.not_eq_true', Bool.not_true, Bool.not_false, and_true, true_and] at hQz); simp only [go_sem, *] <;> rfl)); (case hl => (intro hQz; (try simp only [wantB_t, wantB_f, Bool.and_eq_true, Bool.not_eq_true', Bool.not_true, Bool.not_false, and_true, true_and] at hQz); simp only [go_sem, *] <;> rfl)); (case hn => (intro hQz; (try simp only [wantB_t, wantB_f, Bool.and_eq_true, Bool.not_eq_true', Bool.not_true, Bool.not_false, and_true, true_and] at hQz); simp only [go_sem, *] <;> rfl)); (case hp => intro hQz; first | exact in_ok _ _ _ | (have hXz := in_ok _ _ _; simp only [go_sem, *] at hXz; exact hXz)))
 | (apply st_c; (case hc => (simp only [go_sem, *] <;> rfl)); (case hl => (simp only [go_sem, *] <;> rfl)); (case hn => (simp only [go_sem, *] <;> rfl)); (case hp => first | exact in_ok _ _ _ | (have hXz := in_ok _ _ _; simp only [go_sem, *] at hXz; exact hXz)))
 | (apply Awp.reg; (case hn => (simp only [List.length_cons, List.length_nil, Nat.reduceAdd] <;> rfl)))
 | (refine Awp.skip ?_; try simp only [go_sem, *])
 | refine Awp.block ?_
 | (apply Awp.cond; (case hc => (simp only [go_sem, *] <;> rfl)); all_goals (intro hg; (try simp only [Bool.not_true, Bool.not_false, reduceCtorEq] at hg)))
 | refine Awp.seq ?_
 | (apply sl_a; (case hc => rfl); (case he => (simp only [go_sem, *] <;> rfl)); (case hu => (simp only [updL_nil, updL_cons] <;> rfl)); (case hl => (simp only [List.map_cons, List.map_nil] <;> rfl)); (case hp => first | trivial))
 | (apply sl_c; (case hc => (simp only [go_sem, *] <;> rfl)); (case hl => (simp only [go_sem, *] <;> rfl)); (case hn => (simp only [go_sem, *] <;> rfl)); (case hp => first | exact c1 | (have hXz := c1; simp only [go_sem, *] at hXz; exact hXz)); (case hd => first | exact .inl rfl | exact .inr (.v _) | exact .inr .any | exact .inr .nils | (refine .inr ?_; (repeat' (first | exact Dry.v _ | exact Dry.any | exact Dry.nils | exact Dry.slE | refine Dry.agg ?_ | refine Dry.tup ?_ | (refine List.forall_mem_cons.2 (And.intro ?_ ?_)) | (intro cQ hQ; cases hQ; done))); done)); (case hm => first | decide | (simp; done)))
 | (refine sl_nil (And.intro (by first | exact drawOk_of (by decide +kernel) | (simp only [List.map_cons, List.map_nil]; exact drawOk_of (by decide +kernel)) | decide) ?_)))
          refine ⟨i + 1, ⟨by omega, ltSucc hj hba⟩, by omega, ?_⟩
          (apply Ghost.mk [] []; (case hdead => rfl); (case hinj => rfl); (case hV => (simp only [go_sem, *]) <;> (repeat' (first | exact View.int (by first | rfl | omega | (simp; done) | (rw [wrap_i64] <;> (try simp only [Int.natCast_add]) <;> omega) | (simp [*]; done))))); (case hB => (simp only [go_sem, *]) <;> (repeat' (first | skip; done))))
        · rw [hI] at hba
          repeat' (first
 | (apply Awp.sreg; (case hn => (simp only [List.length_cons, List.length_nil, Nat.reduceAdd] <;> rfl)))
 | (apply Awp.sdraw; (case hn => (simp only [List.length_cons, List.length_nil, Nat.reduceAdd] <;> rfl)))
 | (refine st_nil ?_)
 | (apply st_a; (case hc => rfl); (case he => (simp only [go_sem, *] <;> rfl)); (case hu => (simp only [updL_nil, updL_cons] <;> rfl)); (case hp => first | trivial))
 | (apply st_m; (case hc => rfl); (case hg => (simp only [go_sem, *] <;> rfl)); (case he => (intro hQz; (try simp only [wantB_t, wantB_f, Bool.and_eq_true, Bool.not_eq_true', Bool.not_true, Bool.not_false, and_true, true_and] at hQz); simp only [go_sem, *] <;> rfl)); (case hp => (intro hQz; (try simp only [wantB_t, wantB_f, Bool.and_eq_true, Bool.not_eq_true', Bool.or_eq_false_iff, decide_eq_true_eq, decide_eq_false_iff_not, beq_iff_eq, beq_eq_false_iff_ne, bne_iff_ne, bne_eq_false_iff_eq, Int.not_lt, Int.not_le, Int.ofNat_lt, Int.ofNat_le] at hQz); first | trivial)))
 | (apply st_c; (case hc => (simp only [go_sem, *] <;> rfl)); (case hl => (simp only [go_sem, *] <;> rfl)); (case hn => (simp only [go_sem, *] <;> rfl)); (case hp => first | exact c0 | (have hXz := c0; simp only [go_sem, *] at hXz; exact hXz)))
 | (apply st_mc; (case hop => rfl); (case hg => (simp only [go_sem, *] <;> rfl)); (case hc => (intro hQz; (try simp only [wantB_t, wantB_f, Bool.and_eq_true, Bool.not_eq_true', Bool.not_true, Bool.not_false, and_true, true_and] at hQz); simp only [go_sem, *] <;> rfl)); (case hl => (intro hQz; (try simp only [wantB_t, wantB_f, Bool.and_eq_true, Bool.not_eq_true', Bool.not_true, Bool.not_false, and_true, true_and] at hQz); simp only [go_sem, *] <;> rfl)); (case hn => (intro hQz; (try simp only [wantB_t, wantB_f, Bool.and_eq_true, Bool.not_eq_true', Bool.not_true, Bool.not_false, and_true, true_and] at hQz); simp only [go_sem, *] <;> rfl)); (case hp => intro hQz; first | exact in_ok _ _ _ | (have hXz := in_ok _ _ _; simp only [go_sem, *] at hXz; exact hXz)))
 | (apply st_c; (case hc => (simp only [go_sem, *] <;> rfl)); (case hl => (simp only [go_sem, *] <;> rfl)); (case hn => (simp only [go_sem, *] <;> rfl)); (case hp => first | exact in_ok _ _ _ | (have hXz := in_ok _ _ _; simp only [go_sem, *] at hXz; exact hXz)))
 | (refine Awp.ret ?_; try simp only [go_sem, *])
 | (refine Awp.skip ?_; try simp only [go_sem, *])
 | refine Awp.block ?_
 | (apply Awp.cond; (case hc => (simp only [go_sem, *] <;> rfl)); all_goals (intro hg; (try simp only [Bool.not_true, Bool.not_false, reduceCtorEq] at hg)))
 | refine Awp.seq ?_
 | (apply sl_a; (case hc => rfl); (case he => (simp only [go_sem, *] <;> rfl)); (case hu => (simp only [updL_nil, updL_cons] <;> rfl)); (case hl => (simp only [List.map_cons, List.map_nil] <;> rfl)); (case hp => first | trivial))
 | (apply sl_c; (case hc => (simp only [go_sem, *] <;> rfl)); (case hl => (simp only [go_sem, *] <;> rfl)); (case hn => (simp only [go_sem, *] <;> rfl)); (case hp => first | exact c1 | (have hXz := c1; simp only [go_sem, *] at hXz; exact hXz)); (case hd => first | exact .inl rfl | exact .inr (.v _) | exact .inr .any | exact .inr .nils | (refine .inr ?_; (repeat' (first | exact Dry.v _ | exact Dry.any | exact Dry.nils | exact Dry.slE | refine Dry.agg ?_ | refine Dry.tup ?_ | (refine List.forall_mem_cons.2 (And.intro ?_ ?_)) | (intro cQ hQ; cases hQ; done))); done)); (case hm => first | decide | (simp; done)))
 | (refine sl_nil (And.intro (by first | exact drawOk_of (by decide +kernel) | (simp only [List.map_cons, List.map_nil]; exact drawOk_of (by decide +kernel)) | decide) ?_)))
          exact Lower.int (hbad hba (by decide))
      · repeat' (first
 | (apply Awp.sreg; (case hn => (simp only [List.length_cons, List.length_nil, Nat.reduceAdd] <;> rfl)))
 | (refine st_nil ?_)
 | (apply st_a; (case hc => rfl); (case he => (simp only [go_sem, *] <;> rfl)); (case hu => (simp only [updL_nil, updL_cons] <;> rfl)); (case hp => first | trivial))
 | (apply st_m; (case hc => rfl); (case hg => (simp only [go_sem, *] <;> rfl)); (case he => (intro hQz; (try simp only [wantB_t, wantB_f, Bool.and_eq_true, Bool.not_eq_true', Bool.not_true, Bool.not_false, and_true, true_and] at hQz); simp only [go_sem, *] <;> rfl)); (case hp => (intro hQz; (try simp only [wantB_t, wantB_f, Bool.and_eq_true, Bool.not_eq_true', Bool.or_eq_false_iff, decide_eq_true_eq, decide_eq_false_iff_not, beq_iff_eq, beq_eq_false_iff_ne, bne_iff_ne, bne_eq_false_iff_eq, Int.not_lt, Int.not_le, Int.ofNat_lt, Int.ofNat_le] at hQz); first | trivial)))
 | (apply st_c; (case hc => (simp only [go_sem, *] <;> rfl)); (case hl => (simp only [go_sem, *] <;> rfl)); (case hn => (simp only [go_sem, *] <;> rfl)); (case hp => first | exact c0 | (have hXz := c0; simp only [go_sem, *] at hXz; exact hXz)))
 | (apply st_mc; (case hop => rfl); (case hg => (simp only [go_sem, *] <;> rfl)); (case hc => (intro hQz; (try simp only [wantB_t, wantB_f, Bool.and_eq_true, Bool.not_eq_true', Bool.not_true, Bool.not_false, and_true, true_and] at hQz); simp only [go_sem, *] <;> rfl)); (case hl => (intro hQz; (try simp only [wantB_t, wantB_f, Bool.and_eq_true, Bool.not_eq_true', Bool.not_true, Bool.not_false, and_true, true_and] at hQz); simp only [go_sem, *] <;> rfl)); (case hn => (intro hQz; (try simp only [wantB_t, wantB_f, Bool.and_eq_true, Bool.not_eq_true', Bool.not_true, Bool.not_false, and_true, true_and] at hQz); simp only [go_sem, *] <;> rfl)); (case hp => intro hQz; first | exact in_ok _ _ _ | (have hXz := in_ok _ _ _; simp only [go_sem, *] at hXz; exact hXz)))
 | (apply st_c; (case hc => (simp only [go_sem, *] <;> rfl)); (case hl => (simp only [go_sem, *] <;> rfl)); (case hn => (simp only [go_sem, *] <;> rfl)); (case hp => first | exact in_ok _ _ _ | (have hXz := in_ok _ _ _; simp only [go_sem, *] at hXz; exact hXz)))
 | (refine Awp.ret ?_; try simp only [go_sem, *])
 | (refine Awp.skip ?_; try simp only [go_sem, *])
 | refine Awp.block ?_
 | (apply Awp.cond; (case hc => (simp only [go_sem, *] <;> rfl)); all_goals (intro hg; (try simp only [Bool.not_true, Bool.not_false, reduceCtorEq] at hg)))
 | refine Awp.seq ?_)
        exact Lower.int (hbad hba (by decide))
    · have hlt' : ¬ (i : Int) < bs.length := by omega
      have hfe := firstE_end (Nat.le_of_not_lt hlt) hj
      clear hj
      repeat' (first
 | (apply Awp.sreg; (case hn => (simp only [List.length_cons, List.length_nil, Nat.reduceAdd] <;> rfl)))
 | (refine st_nil ?_)
 | (apply st_a; (case hc => rfl); (case he => (simp only [go_sem, *] <;> rfl)); (case hu => (simp only [updL_nil, updL_cons] <;> rfl)); (case hp => first | trivial))
 | (refine Awp.ret ?_; try simp only [go_sem, *])
 | (refine Awp.exit ?_; try simp only [go_sem, *])
 | (apply Awp.cond; (case hc => (simp only [go_sem, *] <;> rfl)); all_goals (intro hg; (try simp only [Bool.not_true, Bool.not_false, reduceCtorEq] at hg)))
 | refine Awp.seq ?_)
      all_goals repeat' (first | exact Lower.int (by first | rfl | (simp only [true_and, Bool.true_and, Bool.false_and, Bool.and_true, Bool.and_false, Bool.true_or, Bool.false_or, reduceIte, Bool.false_eq_true, *]; done) | (simp only [true_and, reduceIte, Bool.false_eq_true, *] <;> rfl) | (simp [true_and]; done) | (simp_all [true_and]; done) | omega))
theorem rcheck_ok (bs : List By) (l : List Sty) (hb : bs.length < 100000) (hl : l.length < 100000) (hs : ∀ i, i < l.length → (l.getD i zeroSty).item.size < 1000000) : Pure Tryz.prog 31 [.sl (bys bs), .sl (stys l)] (.v (.int .i64 (checkE bs l))) := by
  have c9 := floors_ok bs hb
  by_cases hL : (decide ((8 : Int) < bs.length) || decide ((128 : Int) < l.length)) = true
  · unfold checkE
    rw [if_pos hL]
    refine fn_pure Tryz.F31 (Nat.le_of_ble_eq_true rfl) ?_; unfold Tryz.ac31 AR AM AO
    repeat' (first
 | (apply Awp.sreg; (case hn => (simp only [List.length_cons, List.length_nil, Nat.reduceAdd] <;> rfl)))
 | (refine st_nil ?_)
 | (apply st_a; (case hc => rfl); (case he => (simp only [go_sem, *] <;> rfl)); (case hu => (simp only [updL_nil, updL_cons] <;> rfl)); (case hp => first | trivial))
 | (apply st_m; (case hc => rfl); (case hg => (simp only [go_sem, *] <;> rfl)); (case he => (intro hQz; (try simp only [wantB_t, wantB_f, Bool.and_eq_true, Bool.not_eq_true', Bool.not_true, Bool.not_false, and_true, true_and] at hQz); simp only [go_sem, *] <;> rfl)); (case hp => (intro hQz; (try simp only [wantB_t, wantB_f, Bool.and_eq_true, Bool.not_eq_true', Bool.or_eq_false_iff, decide_eq_true_eq, decide_eq_false_iff_not, beq_iff_eq, beq_eq_false_iff_ne, bne_iff_ne, bne_eq_false_iff_eq, Int.not_lt, Int.not_le, Int.ofNat_lt, Int.ofNat_le] at hQz); first | trivial)))
 | (refine Awp.ret ?_; try simp only [go_sem, *])
 | (apply Awp.cond; (case hc => (simp only [go_sem, *] <;> rfl)); all_goals (intro hg; (try simp only [Bool.not_true, Bool.not_false, reduceCtorEq] at hg)))
 | refine Awp.seq ?_)
    all_goals first | repeat' (first | exact Lower.int (by first | rfl | (simp only [true_and, Bool.true_and, Bool.false_and, Bool.and_true, Bool.and_false, Bool.true_or, Bool.false_or, reduceIte, Bool.false_eq_true, *]; done) | (simp only [true_and, reduceIte, Bool.false_eq_true, *] <;> rfl) | (simp [true_and]; done) | (simp_all [true_and]; done) | omega)) | skip
    all_goals (exfalso; simp_all)
  have hL' : (decide ((8 : Int) < bs.length) || decide ((128 : Int) < l.length)) = false := by simpa using hL
  clear hL
  by_cases hfe : firstE (bayAt bs) bs.length = 0
  case neg =>
    have h1 : checkE bs l = firstE (bayAt bs) bs.length := by
      unfold checkE
      rw [if_neg (by rw [hL']; simp), if_pos (by simpa using hfe)]
    have h2 : (firstE (bayAt bs) bs.length != 0) = true := by simpa using hfe
    rw [h1]
    clear h1 hfe
    generalize firstE (bayAt bs) bs.length = e at *
    refine fn_pure Tryz.F31 (Nat.le_of_ble_eq_true rfl) ?_; unfold Tryz.ac31 AR AM AO
    repeat' (first
 | (apply Awp.sreg; (case hn => (simp only [List.length_cons, List.length_nil, Nat.reduceAdd] <;> rfl)))
 | (refine st_nil ?_)
 | (apply st_a; (case hc => rfl); (case he => (simp only [go_sem, *] <;> rfl)); (case hu => (simp only [updL_nil, updL_cons] <;> rfl)); (case hp => first | trivial))
 | (apply st_m; (case hc => rfl); (case hg => (simp only [go_sem, *] <;> rfl)); (case he => (intro hQz; (try simp only [wantB_t, wantB_f, Bool.and_eq_true, Bool.not_eq_true', Bool.not_true, Bool.not_false, and_true, true_and] at hQz); simp only [go_sem, *] <;> rfl)); (case hp => (intro hQz; (try simp only [wantB_t, wantB_f, Bool.and_eq_true, Bool.not_eq_true', Bool.or_eq_false_iff, decide_eq_true_eq, decide_eq_false_iff_not, beq_iff_eq, beq_eq_false_iff_ne, bne_iff_ne, bne_eq_false_iff_eq, Int.not_lt, Int.not_le, Int.ofNat_lt, Int.ofNat_le] at hQz); first | trivial)))
 | (apply st_c; (case hc => (simp only [go_sem, *] <;> rfl)); (case hl => (simp only [go_sem, *] <;> rfl)); (case hn => (simp only [go_sem, *] <;> rfl)); (case hp => first | exact c9 | (have hXz := c9; simp only [go_sem, *] at hXz; exact hXz)))
 | (refine Awp.ret ?_; try simp only [go_sem, *])
 | (refine Awp.skip ?_; try simp only [go_sem, *])
 | (apply Awp.cond; (case hc => (simp only [go_sem, *] <;> rfl)); all_goals (intro hg; (try simp only [Bool.not_true, Bool.not_false, reduceCtorEq] at hg)))
 | refine Awp.seq ?_)
    all_goals repeat' (first | exact Lower.int (by first | rfl | (simp only [true_and, Bool.true_and, Bool.false_and, Bool.and_true, Bool.and_false, Bool.true_or, Bool.false_or, reduceIte, Bool.false_eq_true, *]; done) | (simp only [true_and, reduceIte, Bool.false_eq_true, *] <;> rfl) | (simp [true_and]; done) | (simp_all [true_and]; done) | omega))
  rw [hfe] at c9
  refine fn_pure Tryz.F31 (Nat.le_of_ble_eq_true rfl) ?_; unfold Tryz.ac31 AR AM AO
  repeat' (first
 | (apply Awp.sreg; (case hn => (simp only [List.length_cons, List.length_nil, Nat.reduceAdd] <;> rfl)))
 | (refine st_nil ?_)
 | (apply st_a; (case hc => rfl); (case he => (simp only [go_sem, *] <;> rfl)); (case hu => (simp only [updL_nil, updL_cons] <;> rfl)); (case hp => first | trivial))
 | (apply st_m; (case hc => rfl); (case hg => (simp only [go_sem, *] <;> rfl)); (case he => (intro hQz; (try simp only [wantB_t, wantB_f, Bool.and_eq_true, Bool.not_eq_true', Bool.not_true, Bool.not_false, and_true, true_and] at hQz); simp only [go_sem, *] <;> rfl)); (case hp => (intro hQz; (try simp only [wantB_t, wantB_f, Bool.and_eq_true, Bool.not_eq_true', Bool.or_eq_false_iff, decide_eq_true_eq, decide_eq_false_iff_not, beq_iff_eq, beq_eq_false_iff_ne, bne_iff_ne, bne_eq_false_iff_eq, Int.not_lt, Int.not_le, Int.ofNat_lt, Int.ofNat_le] at hQz); first | trivial)))
 | (apply st_c; (case hc => (simp only [go_sem, *] <;> rfl)); (case hl => (simp only [go_sem, *] <;> rfl)); (case hn => (simp only [go_sem, *] <;> rfl)); (case hp => first | exact c9 | (have hXz := c9; simp only [go_sem, *] at hXz; exact hXz)))
 | (refine Awp.skip ?_; try simp only [go_sem, *])
 | refine Awp.block ?_
 | (apply Awp.cond; (case hc => (simp only [go_sem, *] <;> rfl)); all_goals (intro hg; (try simp only [Bool.not_true, Bool.not_false, reduceCtorEq] at hg)))
 | refine Awp.seq ?_)
  refine Awp.loop (fun i : Nat => i ≤ l.length ∧ ∀ j, j < i → stayE bs (l.take j) (l.getD j zeroSty) = 0) 60 (fun i => mkS [(0, .sl (bys bs)), (1, .sl (stys l)), (6, .v (.int .i64 i))] []) (fun i => l.length - i) 0 (by simp) ?_ ?_
  · (apply Ghost.mk [] []; (case hdead => rfl); (case hinj => rfl); (case hV => (simp only [go_sem, *]) <;> (repeat' (first | exact View.int (by first | rfl | omega | (simp; done) | (rw [wrap_i64] <;> (try simp only [Int.natCast_add]) <;> omega) | (simp [*]; done))))); (case hB => (simp only [go_sem, *]) <;> (repeat' (first | skip; done))))
  · intro k ⟨hi, hj⟩
    by_cases hlt : k < l.length
    · have hlt' : (k : Int) < l.length := by omega
      have hat := stys_at l k hlt
      have hz : ((l.getD k zeroSty).cells).length = 8 := rfl
      have h3 := stys_one l
      have ht := stys_take l k
      have hle : (k : Int) ≤ l.length := by omega
      have h00 : (0 : Int) ≤ k := by omega
      have c0 := rstay_ok bs (l.take k) (l.getD k zeroSty) (by omega) (by simp; omega) (hs k hlt)
      generalize hE : stayE bs (l.take k) (l.getD k zeroSty) = e at c0
      clear c9
      repeat' (first
 | (apply Awp.sreg; (case hn => (simp only [List.length_cons, List.length_nil, Nat.reduceAdd] <;> rfl)))
 | (apply Awp.sdraw; (case hn => (simp only [List.length_cons, List.length_nil, Nat.reduceAdd] <;> rfl)))
 | (refine st_nil ?_)
 | (apply st_a; (case hc => rfl); (case he => (simp only [go_sem, *] <;> rfl)); (case hu => (simp only [updL_nil, updL_cons] <;> rfl)); (case hp => first | trivial))
 | (apply Awp.reg; (case hn => (simp only [List.length_cons, List.length_nil, Nat.reduceAdd] <;> rfl)))
 | (refine Awp.ret ?_; try simp only [go_sem, *])
 | (refine Awp.skip ?_; try simp only [go_sem, *])
 | refine Awp.block ?_
 | (apply Awp.cond; (case hc => (simp only [go_sem, *] <;> rfl)); all_goals (intro hg; (try simp only [Bool.not_true, Bool.not_false, reduceCtorEq] at hg)))
 | refine Awp.seq ?_
 | (apply sl_a; (case hc => rfl); (case he => (simp only [go_sem, *] <;> rfl)); (case hu => (simp only [updL_nil, updL_cons] <;> rfl)); (case hl => (simp only [List.map_cons, List.map_nil] <;> rfl)); (case hp => first | trivial))
 | (apply sl_c; (case hc => (simp only [go_sem, *] <;> rfl)); (case hl => (simp only [go_sem, *] <;> rfl)); (case hn => (simp only [go_sem, *] <;> rfl)); (case hp => first | exact c0 | (have hXz := c0; simp only [go_sem, *] at hXz; exact hXz)); (case hd => first | exact .inl rfl | exact .inr (.v _) | exact .inr .any | exact .inr .nils | (refine .inr ?_; (repeat' (first | exact Dry.v _ | exact Dry.any | exact Dry.nils | exact Dry.slE | refine Dry.agg ?_ | refine Dry.tup ?_ | (refine List.forall_mem_cons.2 (And.intro ?_ ?_)) | (intro cQ hQ; cases hQ; done))); done)); (case hm => first | decide | (simp; done)))
 | (refine sl_nil (And.intro (by first | exact drawOk_of (by decide +kernel) | (simp only [List.map_cons, List.map_nil]; exact drawOk_of (by decide +kernel)) | decide) ?_)))
      · exact Lower.int (ck_stay hL' hfe hlt hj hE (by simpa using hg))
      · refine ⟨k + 1, ⟨by omega, ltSucc hj (by rw [hE]; simpa using hg)⟩, by omega, ?_⟩
        (apply Ghost.mk [] []; (case hdead => rfl); (case hinj => rfl); (case hV => (simp only [go_sem, *]) <;> (repeat' (first | exact View.int (by first | rfl | omega | (simp; done) | (rw [wrap_i64] <;> (try simp only [Int.natCast_add]) <;> omega) | (simp [*]; done))))); (case hB => (simp only [go_sem, *]) <;> (repeat' (first | skip; done))))
    · have hlt' : ¬ (k : Int) < l.length := by omega
      repeat' (first
 | (apply Awp.sreg; (case hn => (simp only [List.length_cons, List.length_nil, Nat.reduceAdd] <;> rfl)))
 | (refine st_nil ?_)
 | (apply st_a; (case hc => rfl); (case he => (simp only [go_sem, *] <;> rfl)); (case hu => (simp only [updL_nil, updL_cons] <;> rfl)); (case hp => first | trivial))
 | (refine Awp.ret ?_; try simp only [go_sem, *])
 | (refine Awp.exit ?_; try simp only [go_sem, *])
 | (apply Awp.cond; (case hc => (simp only [go_sem, *] <;> rfl)); all_goals (intro hg; (try simp only [Bool.not_true, Bool.not_false, reduceCtorEq] at hg)))
 | refine Awp.seq ?_)
      exact Lower.int (ck_end hL' hfe (Nat.le_of_not_lt hlt) hj)
end Go.Proofs
namespace Go.Proofs
open Go Go.Ab
set_option maxHeartbeats 1000000
/-- A work. -/
structure Wk where
  id : ByteArray
  hr : Int
  len : Int
  wid : Int
  af : List ByteArray
def Wk.cells (q : Wk) : List AV := [.v (.string q.id), .v (.int .i64 q.hr), .v (.int .i64 q.len), .v (.int .i64 q.wid), .sl (strs q.af)]
def Wk.av (q : Wk) : AV := .agg q.cells
attribute [go_sem] Wk.cells Wk.av
def wks (l : List Wk) : List (List AV) := l.map Wk.cells
@[go_sem] theorem wks_len (l : List Wk) : (wks l).length = l.length := by simp [wks]
def zeroWk : Wk := ⟨⟨#[]⟩, 0, 0, 0, []⟩
theorem wks_at (l : List Wk) (i : Nat) (h : i < l.length) : (wks l).getD i [] = (l.getD i zeroWk).cells := by
  simp [wks, List.getD_eq_getElem?_getD, h]
theorem wks_one (l : List Wk) : ∀ y ∈ wks l, y.length = 5 := by
  intro y hy; obtain ⟨x, _, rfl⟩ := List.mem_map.1 hy; rfl
theorem wks_snoc (l : List Wk) (x : Wk) : wks l ++ [x.cells] = wks (l ++ [x]) := by simp [wks]
end Go.Proofs
namespace Go.Ab

inductive CView (ns : List Nat) (ρ : Nat → Nat) : AV → AV → Prop
  | low {x y} (h : Lower (fun _ => none) x y) : CView ns ρ x y
  | agg {cs cs'} (hl : cs.length = cs'.length) (hr : ∀ j, j < cs.length → CView ns ρ (av cs j) (av cs' j)) : CView ns ρ (.agg cs) (.agg cs')
  | tup {cs cs'} (hl : cs.length = cs'.length) (hr : ∀ j, j < cs.length → CView ns ρ (av cs j) (av cs' j)) : CView ns ρ (.tup cs) (.tup cs')
  | fn {f cs cs'} (hl : cs.length = cs'.length) (hr : ∀ j, j < cs.length → CView ns ρ (av cs j) (av cs' j)) : CView ns ρ (.fn f cs) (.fn f cs')
  | own {b n} (hb : ρ n = b) (hn : n ∈ ns) : CView ns ρ (.own b) (.own n)
  | pre {b n k} (hb : ρ n = b) (hn : n ∈ ns) : CView ns ρ (.pre b k) (.pre n k)
  | bp {b n o} (hb : ρ n = b) (hn : n ∈ ns) : CView ns ρ (.bp b o) (.bp n o)
  | ep {b n sz i o} (hb : ρ n = b) (hn : n ∈ ns) : CView ns ρ (.ep b sz i o) (.ep n sz i o)
  | mapv {b n} (hb : ρ n = b) (hn : n ∈ ns) : CView ns ρ (.mapv b) (.mapv n)

inductive CBView (ns : List Nat) (ρ : Nat → Nat) : Blk → Blk → Prop
  | box {cs cs'} (hl : cs.length = cs'.length) (hr : ∀ j, j < cs.length → CView ns ρ (av cs j) (av cs' j)) : CBView ns ρ (.box cs) (.box cs')
  | row {es es' sz e} (h : es = es') : CBView ns ρ (.row es sz e) (.row es' sz e)
  | iter (s pos) : CBView ns ρ (.iter s pos) (.iter s pos)
  | map {ks vs ks' vs'} (h : ks = ks') (h' : vs = vs') : CBView ns ρ (.map ks vs) (.map ks' vs')

theorem CView.sound {st st' : Nat → Prop} {β β' : Nat → Value} {w : World} {ns : List Nat} {ρ : Nat → Nat} (hst : ∀ g, st g → st' g) (hn : ∀ n, n ∈ ns → β' n = β (ρ n)) {x y : AV}
    (p : CView ns ρ x y) : ∀ {c}, SimV st β w x c → SimV st' β' w y c := by
  induction p with
  | low h => exact fun s => .pure (h.sound (β := β) (st := st) (fun n b hb => by simp at hb) hst (fun n b g hb => by simp at hb) s)
  | agg hlen hr ih =>
    intro c s
    obtain ⟨xs, rfl, h1, h2, h3⟩ := s.agg_inv
    exact .agg _ xs (by omega) h2 fun j hj => ih j (by omega) (h3 j (by omega))
  | tup hlen hr ih =>
    intro c s
    obtain ⟨xs, rfl, h1, h3⟩ := s.tup_inv
    exact .tup _ xs (by omega) fun j hj => ih j (by omega) (h3 j (by omega))
  | fn hlen hr ih =>
    intro c s
    obtain ⟨xs, rfl, h1, h3⟩ := s.fn_inv
    exact .fn _ _ xs (by omega) fun j hj => ih j (by omega) (h3 j (by omega))
  | @own b n hbn hm =>
    intro c s
    obtain ⟨h1, a, m, cap, rfl⟩ := s.own_inv
    exact .own n (by rw [hn n hm, hbn]; exact h1.symm)
  | @pre b n k hbn hm =>
    intro c s
    obtain ⟨a, m, cap, cap', h1, rfl, h2, h3⟩ := s.pre_inv
    exact .pre n k (by rw [hn n hm, hbn]; exact h1) h2 h3
  | @bp b n o hbn hm =>
    intro c s
    obtain ⟨g, h1, rfl⟩ := s.bp_inv
    exact .bp n o (by rw [hn n hm, hbn]; exact h1)
  | @ep b n sz i o hbn hm =>
    intro c s
    obtain ⟨g, m, cap, h1, rfl⟩ := s.ep_inv
    exact .ep n sz i o (by rw [hn n hm, hbn]; exact h1)
  | @mapv b n hbn hm =>
    intro c s
    obtain ⟨g, h1, rfl⟩ := s.mapv_inv
    exact .mapv n (by rw [hn n hm, hbn]; exact h1)

theorem CBView.sound {st st' : Nat → Prop} {β β' : Nat → Value} {w : World} {ns : List Nat} {ρ : Nat → Nat} (hst : ∀ g, st g → st' g) (hn : ∀ n, n ∈ ns → β' n = β (ρ n)) {x y : Blk}
    (p : CBView ns ρ x y) {c : Value} (s : BlkRep st β w x c) : BlkRep st' β' w y c := by
  cases p with
  | box hl hv =>
    obtain ⟨g, ty, xs, f1, f2, f3, f4, f5⟩ := s
    exact ⟨g, ty, xs, f1, f2, by omega, f4, fun j hj => (hv j (by omega)).sound hst hn (f5 j (by omega))⟩
  | row e =>
    subst e
    obtain ⟨xs, f1, f2, f3, f4, f5⟩ := s
    exact ⟨xs, f1, f2, f3, f4, fun i j hi hj => (f5 i j hi hj).mono fun g hg => ⟨hst g hg, rfl⟩⟩
  | iter q p => exact s
  | map e e' =>
    subst e; subst e'
    obtain ⟨g, f, f1, f2, f3, f4⟩ := s
    exact ⟨g, f, f1, f2, f3, fun i hi => (f4 i hi).mono fun g hg => ⟨hst g hg, rfl⟩⟩

def rn (nm m k : Nat) : Nat := if k = nm then m else k

theorem updL_none {α : Type} {f : Nat → Option α} : ∀ {u : List (Nat × Option α)} {k : Nat} {b : α}, updL f u k = some b → (∃ b', f k = some b') ∨ k ∈ u.map (·.1)
  | [], _, b, h => .inl ⟨b, h⟩
  | (i, x) :: u, k, b, h => by
    rcases updL_none (u := u) h with ⟨b', hb⟩ | h'
    · by_cases e : k = i
      · exact .inr (by simp [e])
      · simp only [upd, if_neg e] at hb; exact .inl ⟨b', hb⟩
    · exact .inr (by simp [h'])

theorem BlkRep.ne {st : Nat → Prop} {β : Nat → Value} {w : World} {b : Blk} {c : Value} (h : BlkRep st β w b c) : c ≠ undef := by
  cases b with
  | box cs => obtain ⟨g, ty, xs, rfl, _⟩ := h; simp [undef]
  | row es sz e =>
    obtain ⟨xs, _, _, hr, _⟩ := h
    rcases hr with ⟨a, rfl, _⟩ | ⟨g', cap, rfl, _⟩ <;> simp [undef]
  | iter s pos => obtain ⟨g, rfl, _⟩ := h; simp [undef]
  | rowX es sz e =>
    obtain ⟨xs, _, _, hr, _⟩ := h
    rcases hr with ⟨a, rfl, _⟩ | ⟨g', cap, rfl, _⟩ <;> simp [undef]
  | map ks vs => obtain ⟨g, f, rfl, _⟩ := h; simp [undef]

variable {P : Program} {f : FuncId} {fn : Func} {ac : ACode} {n : Nat} {rs : List ResultVar} {args : List AV}

theorem fn_cc (F : FnFacts P f fn ac n rs) (hn : args.length ≤ n) {hl : List (Nat × Blk)} {ups : Upd} {nm bs : Nat} {r : AV} (hlb : ∀ p ∈ hl, p.1 < bs) (hnm : nm ∉ hl.map (·.1))
    (hu : ∀ p ∈ ups, p.1 = nm ∨ p.1 ∈ hl.map (·.1)) (hall : ∀ p ∈ hl, p.1 ∈ ups.map (·.1)) (hbx : ∀ p ∈ hl, CBView (hl.map (·.1)) id p.2 p.2) (ha : ∀ j, j < args.length → CView (hl.map (·.1)) id (av args j) (av args j))
    (h : Awp P n bs ac bs ⟨fun t => av args t, listH hl⟩ fun e _ S => (e = .normal ∨ e = .ret) ∧ resSide P S rs ∧ ∃ m, bs ≤ m ∧
      CView (nm :: hl.map (·.1)) (rn nm m) (resV (resVals P S rs)) r ∧ ∀ k b', updL (listH hl) ups k = some b' → ∃ blk, S.h (rn nm m k) = some blk ∧ CBView (nm :: hl.map (·.1)) (rn nm m) blk b') :
    CallC P f args hl nm r ups := by
  obtain ⟨code, hbody, hcomp⟩ := F.code
  refine ⟨F.callable, fun prov β w cs hβ hb hinj hv => ?_⟩
  refine calls_of_wp F.at_ hbody ?_
  rw [F.nt]
  have hmem : ∀ k b, listH hl k = some b → k ∈ hl.map (·.1) := fun k b hk => List.mem_map.2 ⟨_, listH_mem hk, rfl⟩
  have hmem' : ∀ k, k ∈ hl.map (·.1) → k < bs := fun k hk => by obtain ⟨p, hp, rfl⟩ := List.mem_map.1 hk; exact hlb p hp
  have hdef : ∀ k, k ∈ hl.map (·.1) → β k ≠ undef := fun k hk => by
    have : ∃ b, listH hl k = some b := by
      clear hb hinj hv h ha hbx hall hu hnm hlb hmem hmem'
      induction hl with
      | nil => simp at hk
      | cons p hl ih =>
        simp only [listH]
        by_cases e : k = p.1
        · exact ⟨p.2, by rw [if_pos e]⟩
        · rw [if_neg e]; exact ih (by simpa [e] using hk)
    obtain ⟨b, hkb⟩ := this
    exact (hb k b hkb).ne
  let β0 : Nat → Value := fun k => if k ∈ hl.map (·.1) then β k else undef
  have β0_at : ∀ k, k ∈ hl.map (·.1) → β0 k = β k := fun k hk => if_pos hk
  let E : Entry := { w0 := w, β0 := β0, prov := prov, may := fun g => ∃ k b, listH hl k = some b ∧ blkOf (β k) = some g, n := n }
  have hfit : E.fits bs := ⟨fun k hk => if_neg fun h' => by have := hmem' k h'; omega, fun h0 g ⟨k, b, hk, _⟩ => by have := hmem' k (hmem k b hk); omega⟩
  have hst0 : ∀ g, stb prov w β (listH hl) g → E.st w β0 (listH hl) g := fun g ⟨h1, h2, h3⟩ => ⟨h1, .inl h2, fun k b hk => by rw [β0_at k (hmem k b hk)]; exact h3 k b hk⟩
  have s0 : Sim E (fun k => bs ≤ k) ⟨fun t => av args t, listH hl⟩ β0 { tmps := cs.toArray ++ Array.replicate (n - cs.toArray.size) undef, defers := [] } w := by
    refine ⟨fun t => ?_, ?_, rfl, fun k b hk => ?_, fun k m b b' g hk hm hg hg' => ?_, fun k hk => hfit.1 k hk, fun k b g hk hg => .inl ⟨k, b, hk, ?_⟩, rfl, rfl, rfl, Nat.le_refl _, fun _ _ _ => rfl, fun _ _ => rfl⟩
    · by_cases ht : t < args.length
      · have h1 := hv.2 t ht
        have e : (cs.toArray ++ Array.replicate (n - cs.toArray.size) undef).getD t undef = cv cs t := by
          have hl : t < cs.length := by rw [← hv.1]; exact ht
          rw [Array.getD_eq_getD_getElem?, Array.getElem?_append_left (by simpa using hl)]
          simp [cv, List.getD_eq_getElem?_getD]
        show SimV _ _ _ _ ((cs.toArray ++ Array.replicate (n - cs.toArray.size) undef).getD t undef)
        rw [e]
        exact (ha t ht).sound hst0 (fun k hk => β0_at k hk) h1
      · have : av args t = .any := by simp [av, List.getD_eq_getElem?_getD, Nat.le_of_not_lt ht]
        show SimV _ _ _ (av args t) _
        rw [this]
        exact .pure (.any _)
    · have := hv.1
      simp
      show _ = n
      omega
    · have h1 := hb k b hk
      rw [β0_at k (hmem k b hk)]
      exact (hbx _ (listH_mem hk)).sound hst0 (fun k hk => β0_at k hk) h1
    · change blkOf (β0 k) = some g at hg
      change blkOf (β0 m) = some g at hg'
      rw [β0_at k (hmem k b hk)] at hg
      rw [β0_at m (hmem m b' hm)] at hg'
      exact hinj k m b b' g hk hm hg hg'
    · rw [β0_at k (hmem k b hk)] at hg; exact hg
  refine h code hcomp F.ok F.mixed E _ _ w rfl hfit s0 _ fun e nx S βs a w' ⟨he, hs, m, hm, hrv, hbs⟩ s => ?_
  obtain ⟨c, hc, hv'⟩ := results_run (f := fn) s (by rw [F.rseq]; exact F.res) (by rw [F.rseq]; exact hs)
  rw [F.rseq] at hv'
  let β2 : Nat → Value := fun k => if k = nm then βs m else β k
  have hag : ∀ k, k ∈ nm :: hl.map (·.1) → β2 k = βs (rn nm m k) := by
    intro k hk
    by_cases e : k = nm
    · simp only [β2, rn, if_pos e]
    · have hk' : k ∈ hl.map (·.1) := by simpa [e] using hk
      simp only [β2, rn, if_neg e]
      have := s.grow k (by show β0 k ≠ undef; rw [β0_at k hk']; exact hdef k hk')
      rw [this]
      exact (β0_at k hk').symm
  have hdom : ∀ k b, updL (listH hl) ups k = some b → k ∈ nm :: hl.map (·.1) := by
    intro k b hk
    rcases updL_none hk with ⟨b', hb'⟩ | h'
    · exact List.mem_cons.2 (.inr (hmem k b' hb'))
    · obtain ⟨p, hp, rfl⟩ := List.mem_map.1 h'
      rcases hu p hp with e | e
      · exact List.mem_cons.2 (.inl e)
      · exact List.mem_cons.2 (.inr e)
  have hst2 : ∀ g, E.st w' βs S.h g → stb (fun g => prov g ∨ w.heap.size ≤ g) w' β2 (updL (listH hl) ups) g := by
    intro g ⟨h1, h2, h3⟩
    refine ⟨h1, h2, fun k b hk => ?_⟩
    obtain ⟨blk, hblk, _⟩ := hbs k b hk
    rw [hag k (hdom k b hk)]
    exact h3 _ _ hblk
  have fin : a.defers = [] ∧ ∃ v, (results fn a.tmps).run P w' = .ok v w' ∧ ∃ c β', Ending.returned v = .returned c ∧ w'.os = w.os ∧ w'.tape = w.tape ∧ w'.output = w.output ∧ w.heap.size ≤ w'.heap.size ∧ Grows β β' ∧ (∀ n, n ≠ nm → β' n = β n) ∧
      (∀ g, g < w.heap.size → (∀ n b, listH hl n = some b → n ∈ ups.map (·.1) → blkOf (β n) ≠ some g) → w'.heap[g]? = w.heap[g]?) ∧
      SimV (stb (fun g => prov g ∨ w.heap.size ≤ g) w' β' (updL (listH hl) ups)) β' w' r c ∧
      (∀ n b, updL (listH hl) ups n = some b → n ∈ ups.map (·.1) → BlkRep (stb (fun g => prov g ∨ w.heap.size ≤ g) w' β' (updL (listH hl) ups)) β' w' b (β' n) ∧
        ∀ g, blkOf (β' n) = some g → w.heap.size ≤ g ∨ ∃ m b', listH hl m = some b' ∧ m ∈ ups.map (·.1) ∧ blkOf (β m) = some g) ∧
      Inj β' (updL (listH hl) ups) := by
    refine ⟨s.df, c, hc, c, β2, rfl, s.os, s.tape, s.out, s.size, fun k hk => ?_, fun k hk => if_neg hk, fun g hg hno => s.keep g hg fun ⟨k, b, hk, hg'⟩ => ?_, hrv.sound hst2 hag hv', fun k b hk hku => ?_, fun k k' b b' g hk hk' hg hg' => ?_⟩
    · by_cases e : k = nm
      · subst e; exact absurd hβ hk
      · simp only [β2, if_neg e]
    · obtain ⟨p, hp, e⟩ := List.mem_map.1 (hmem k b hk)
      exact hno k b hk (e ▸ hall p hp) hg'
    · obtain ⟨blk, hblk, hv2⟩ := hbs k b hk
      rw [hag k (hdom k b hk)]
      refine ⟨hv2.sound hst2 hag (s.bl _ _ hblk), fun g hg => ?_⟩
      rcases s.mine _ _ g hblk hg with ⟨k', b', h1, h2⟩ | h1
      · obtain ⟨p, hp, e⟩ := List.mem_map.1 (hmem k' b' h1)
        exact .inr ⟨k', b', h1, e ▸ hall p hp, h2⟩
      · exact .inl h1
    · obtain ⟨blk, hblk, _⟩ := hbs k b hk
      obtain ⟨blk', hblk', _⟩ := hbs k' b' hk'
      rw [hag k (hdom k b hk)] at hg
      rw [hag k' (hdom k' b' hk')] at hg'
      have e := s.inj _ _ _ _ g hblk hblk' hg hg'
      have h1 := hdom k b hk
      have h2 := hdom k' b' hk'
      simp only [rn] at e
      by_cases e1 : k = nm <;> by_cases e2 : k' = nm
      · rw [e1, e2]
      · rw [if_pos e1, if_neg e2] at e
        have := hmem' k' (by simpa [e2] using h2)
        omega
      · rw [if_neg e1, if_pos e2] at e
        have := hmem' k (by simpa [e1] using h1)
        omega
      · rw [if_neg e1, if_neg e2] at e; exact e
  rcases he with rfl | rfl <;> exact fin
end Go.Ab
namespace Go.Ab
open Go.RowKit

theorem Ghost.nameBox {bs nx : Nat} {S : AState} (c sz : Nat) (e : TypeId) (hc : S.h c = some (.box [.nils])) (h0 : 0 < sz) : Ghost bs nx S (nx + 1) ⟨S.t, upd (upd S.h c (some (.box [.own nx]))) nx (some (.row [] sz e))⟩ := by
  intro E β a w hE s
  obtain ⟨g0, ty, xs, f1, f2, f3, f4, f5⟩ := s.bl c _ hc
  have hv := f5 0 (by simp)
  simp only [av_zero] at hv
  obtain ⟨ad, hcv⟩ := hv.nils_inv
  have hβ : β nx = undef := s.fresh nx (Nat.le_refl _)
  have hcn : c ≠ nx := fun e => by subst e; exact (s.bl c _ hc).ne hβ
  have hg : Grows β (upd β nx (.slice ad 0 0)) := fun n hn => by
    unfold upd; split
    · rename_i h; subst h; exact absurd hβ hn
    · rfl
  have hb0 : ∀ g, blkOf (Value.slice ad 0 0) ≠ some g := fun g => by cases ad <;> simp [blkOf]
  have hs := s.step (fr' := fun k => nx + 1 ≤ k) (S' := ⟨S.t, upd (upd S.h c (some (.box [.own nx]))) nx (some (.row [] sz e))⟩) (β' := upd β nx (.slice ad 0 0)) (a' := a) (w' := w) (fun g => blkOf (β c) = some g) (fun g h => ⟨c, _, hc, h⟩) rfl rfl rfl (Nat.le_refl _) (fun _ _ _ => rfl) hg
    (fun n hn => by unfold upd; rw [if_neg (by omega)]; exact s.fresh n (by omega)) (fun n b hb => ?_) ?_ rfl s.df (fun hst => fun q => (s.tm q).mono hg hst)
  · exact ⟨_, hs⟩
  · simp only [upd] at hb
    split at hb
    · rename_i h; subst h
      simp only [Option.some.injEq] at hb; subst hb
      refine .inr ⟨fun _ => ?_, fun g hg => by simp only [upd, if_true] at hg; exact absurd hg (hb0 g)⟩
      simp only [upd, if_true]
      exact ⟨[], by simp, h0, .inl ⟨ad, rfl, rfl, rfl⟩, by simp, fun i j hi => by simp at hi⟩
    · rename_i hnn
      split at hb
      · rename_i h; subst h
        simp only [Option.some.injEq] at hb; subst hb
        refine .inr ⟨fun hst => ?_, fun g hg => .inr (by simp only [upd, if_neg hnn] at hg; exact hg)⟩
        simp only [upd, if_neg hnn]
        refine ⟨g0, ty, xs, f1, f2, by simpa using f3, f4, fun j hj => ?_⟩
        have : j = 0 := by simp at hj; omega
        subst this
        rw [hcv]
        simp only [av_zero]
        exact .own nx (by simp [upd])
      · rename_i hnc
        refine .inl ⟨hb, fun g hg hg' => hnc (s.inj n c _ _ g hb hc hg hg')⟩
  · intro n m b1 b2 g h1 h2 g1 g2
    simp only [upd] at h1 h2 g1 g2
    by_cases e1 : n = nx
    · rw [if_pos e1] at g1; exact absurd g1 (hb0 g)
    · by_cases e2 : m = nx
      · rw [if_pos e2] at g2; exact absurd g2 (hb0 g)
      · simp only [if_neg e1, if_neg e2] at h1 h2 g1 g2
        have k1 : ∃ b, S.h n = some b := by
          split at h1
          · rename_i h; exact ⟨_, h ▸ hc⟩
          · exact ⟨_, h1⟩
        have k2 : ∃ b, S.h m = some b := by
          split at h2
          · rename_i h; exact ⟨_, h ▸ hc⟩
          · exact ⟨_, h2⟩
        obtain ⟨_, k1⟩ := k1
        obtain ⟨_, k2⟩ := k2
        exact s.inj n m _ _ g k1 k2 g1 g2
theorem View.fn3 {hd : Nat → Option Blk} {ρ : Nat → Nat} {nx f a b c a' b' c' : Nat} (ha : ρ a' = a) (hb : ρ b' = b) (hc : ρ c' = c) (h : a' < nx ∧ b' < nx ∧ c' < nx) : View hd ρ nx (.fn f [.bp a 0, .bp b 0, .bp c 0]) (.fn f [.bp a' 0, .bp b' 0, .bp c' 0]) :=
  .fn rfl fun j hj => by match j, hj with | 0, _ => exact .bp ha h.1 | 1, _ => exact .bp hb h.2.1 | 2, _ => exact .bp hc h.2.2
theorem BView.own1 {hd : Nat → Option Blk} {ρ : Nat → Nat} {nx b n : Nat} (hb : ρ n = b) (hn : n < nx) : BView hd ρ nx (.box [.own b]) (.box [.own n]) :=
  .box rfl fun j hj => by match j, hj with | 0, _ => exact .own hb hn
end Go.Ab
namespace Go.Ab
open Go
end Go.Ab
namespace Go.Ab
open Go.RowKit
end Go.Ab
namespace Go.Ab
open Go.RowKit
section
variable {P : Program} {d : Option Nat} {op : AOp} {deps : List Nat} {r : List AOper} {nm : Nat} {t : Nat → AV} {h : Nat → Option Blk} {es : List Ent} {KL : AState → List Ent → Prop}
end
end Go.Ab
namespace Go.Ab
open Go.RowKit
open Go
section use
variable {P : Program} {f : FuncId} {args args' : List AV} {hl : List (Nat × Blk)} {nm : Nat}
end use
section fns
variable {P : Program} {f : FuncId} {fn : Func} {ac : ACode} {n : Nat} {rs : List ResultVar} {args : List AV}
end fns
end Go.Ab
namespace Go.Ab
section eff
variable (h : Nat → Option Blk) (nm c : Nat) (z v : AV) (ok : Bool) (s : ByteArray) (ks : List ByteArray) (vs : List AV)
@[go_sem] theorem mapMake_def : effMapMake nm = ⟨True, .mapv nm, [(nm, some (.map [] []))], []⟩ := rfl
@[go_sem] theorem mapLen_mapv : effMapLen h (.mapv c) = mapLenB c (h c) := rfl
@[go_sem] theorem mapLenB_map : mapLenB c (some (.map ks vs)) = ⟨True, .v (.int .i64 ks.length), [], [c]⟩ := rfl
@[go_sem] theorem mapGet_mapv : effMapGet h z ok (.mapv c) (.v (.string s)) = mapGetB c z ok s (h c) := rfl
@[go_sem] theorem mapGet_mpf : effMapGet h z ok (.mpf ks vs) (.v (.string s)) = ⟨True, mapRet ok (mapVal vs z (mapIx ks s)) (mapIx ks s).isSome, [], []⟩ := rfl
@[go_sem] theorem mapGetB_map : mapGetB c z ok s (some (.map ks vs)) = ⟨True, mapRet ok (mapVal vs z (mapIx ks s)) (mapIx ks s).isSome, [], [c]⟩ := rfl
@[go_sem] theorem mapRet_f (fd : Bool) : mapRet false v fd = v := rfl
@[go_sem] theorem mapRet_t (fd : Bool) : mapRet true v fd = .tup [v, .v (.bool fd)] := rfl
@[go_sem] theorem mapPut_mapv : effMapPut h v (.mapv c) (.v (.string s)) = mapPutB c s v (h c) := rfl
@[go_sem] theorem mapPutB_map : mapPutB c s v (some (.map ks vs)) = ⟨v.flatD = true, .tup [], [(c, some (.map (putK ks s (mapIx ks s)) (putV vs v (mapIx ks s))))], [c]⟩ := rfl
@[go_sem] theorem mapDel_mapv : effMapDel h (.mapv c) (.v (.string s)) = mapDelB c s (h c) := rfl
@[go_sem] theorem mapDelB_map : mapDelB c s (some (.map ks vs)) = ⟨True, .tup [], [(c, some (.map (delK ks (mapIx ks s)) (delK vs (mapIx ks s))))], [c]⟩ := rfl
@[go_sem] theorem flatD_v (x : Value) : (AV.v x).flatD = true := rfl
end eff
theorem BView.mapE {hd : Nat → Option Blk} {ρ : Nat → Nat} {nx : Nat} {ks ks' : List ByteArray} {vs vs' : List AV} (h : ks = ks') (k : vs = vs') : BView hd ρ nx (.map ks vs) (.map ks' vs') := by subst h; subst k; exact .map _ _
theorem BView.map1 {hd : Nat → Option Blk} {ρ : Nat → Nat} {nx b n : Nat} (hb : ρ n = b) (hn : n < nx) : BView hd ρ nx (.box [.mapv b]) (.box [.mapv n]) :=
  .box rfl fun j hj => by
    match j, hj with
    | 0, _ => exact .mapv hb hn
theorem View.fn1 {hd : Nat → Option Blk} {ρ : Nat → Nat} {nx f a a' : Nat} (ha : ρ a' = a) (h : a' < nx) : View hd ρ nx (.fn f [.bp a 0]) (.fn f [.bp a' 0]) :=
  .fn rfl fun j hj => by
    match j, hj with
    | 0, _ => exact .bp ha h
end Go.Ab
namespace Go.Ab
open Go.RowKit
open Go
def PureTwoM (P : Program) (f : FuncId) (args : List AV) (ks : List ByteArray) (vs : List AV) (y : Value) : Prop :=
  Callable P f ∧ ∀ (ok : Nat → Prop) (w : World) (cs : List Value), PArgs ok w args cs →
    Calls P f cs.toArray w fun e w' => ∃ c, e = .returned (.tuple #[c, y]) ∧ Keeps w w' ∧ (∃ g fv, MapFits (fun g => g < w'.heap.size ∧ (ok g ∨ w.heap.size ≤ g) ∧ blkOf c ≠ some g) w' ks vs c g fv) ∧ ∀ g, blkOf c = some g → w.heap.size ≤ g
section use
variable {P : Program} {f : FuncId} {args args' : List AV} {hl : List (Nat × Blk)} {nm : Nat}
theorem CallC.twoM {ks : List ByteArray} {ws : List AV} {y : Value} (h : PureTwoM P f args' ks ws y) (hlen : args.length = args'.length) (hlow : ∀ j, j < args.length → Lower (listH hl) (av args j) (av args' j)) (hnm : nm ∉ hl.map (·.1)) (hd : hl = [] ∨ ∀ y ∈ ws, Dry y) :
    CallC P f args hl nm (.tup [.mapv nm, .v y]) [(nm, some (.map ks ws))] := by
  refine ⟨h.1, fun prov β w cs hn hb hi hv => ?_⟩
  refine (h.2 _ w cs (lower_args hb hv hlen hlow)).mono fun e w' ⟨c, he, hk, ⟨g0, fv, hf⟩, hnew⟩ => ?_
  have hg : Grows β (upd β nm c) := fun k hk => by
    unfold upd; split
    · rename_i h; subst h; exact absurd hn hk
    · rfl
  have hlk : ∀ n, updL (listH hl) [(nm, some (Blk.map ks ws))] n = if n = nm then some (.map ks ws) else listH hl n := fun n => rfl
  have hne : ∀ n b, listH hl n = some b → n ≠ nm := fun n b h e => hnm (by subst e; exact List.mem_map.2 ⟨_, listH_mem h, rfl⟩)
  refine ⟨.tuple #[c, y], upd β nm c, he, hk.os, hk.tape, hk.out, hk.size, hg, fun n hn' => by simp [upd, hn'], fun g hg _ => hk.heap g hg, ?_, fun n b hb' hm => ?_, ?_⟩
  · have hc := hf.eq
    refine .tup [.mapv nm, .v y] [c, y] rfl fun j hj => ?_
    match j, hj with
    | 0, _ => simp only [av_zero, cv, List.getD_cons_zero]; rw [hc]; exact .mapv nm (by simp [upd, hc])
    | 1, _ => exact .pure (.v _)
  · have hm' : n = nm := by simpa using hm
    rw [hm'] at hb' ⊢
    rw [hlk, if_pos rfl] at hb'
    simp at hb'
    subst hb'
    simp only [upd, if_true]
    refine ⟨⟨g0, fv, hf.eq, hf.at_, hf.len, fun i hi' => ?_⟩, fun g hg => .inl (hnew g hg)⟩
    have hp := hf.val i hi'
    rcases hd with rfl | hd
    · refine hp.mono fun g ⟨h1, h2, h3⟩ => ⟨⟨h1, h2.imp (fun h => h.elim id fun ⟨n, b, h3, _⟩ => by simp [listH] at h3) id, fun n b hb' => ?_⟩, rfl⟩
      rw [hlk] at hb'
      by_cases hnn : n = nm
      · rw [hnn]; simp only [upd, if_true]; exact h3
      · rw [if_neg hnn] at hb'; simp [listH] at hb'
    · exact (hd _ (av_mem (by rw [hf.len]; exact hi'))).mono hp
  · intro n m b b' g h1 h2 g1 g2
    rw [hlk] at h1 h2
    by_cases e1 : n = nm <;> by_cases e2 : m = nm
    · rw [e1, e2]
    · rw [if_neg e2] at h2
      simp only [upd, if_pos e1, if_neg e2] at g1 g2
      have := hnew g g1
      have := (hb m b' h2).lt g2
      omega
    · rw [if_neg e1] at h1
      simp only [upd, if_neg e1, if_pos e2] at g1 g2
      have := hnew g g2
      have := (hb n b h1).lt g1
      omega
    · rw [if_neg e1] at h1
      rw [if_neg e2] at h2
      simp only [upd, if_neg e1, if_neg e2] at g1 g2
      exact hi n m b b' g h1 h2 g1 g2
end use
section fns
variable {P : Program} {f : FuncId} {fn : Func} {ac : ACode} {n : Nat} {rs : List ResultVar} {args : List AV}
theorem fn_twoM (F : FnFacts P f fn ac n rs) (hn : args.length ≤ n) {ks : List ByteArray} {ws : List AV} {y : Value}
    (h : Awp P n 0 ac 0 (S0 args) fun e _ S => (e = .normal ∨ e = .ret) ∧ resSide P S rs ∧ ∃ b, resV (resVals P S rs) = .tup [.mapv b, .v y] ∧ S.h b = some (.map ks ws)) : PureTwoM P f args ks ws y := by
  obtain ⟨code, hbody, hcomp⟩ := F.code
  refine ⟨F.callable, fun ok w cs ha => ?_⟩
  refine calls_of_wp F.at_ hbody ?_
  rw [F.nt]
  have s0 := sim_start ha n hn
  refine h code hcomp F.ok F.mixed { w0 := w, β0 := fun _ => undef, prov := ok, may := fun _ => False, n := n } _ _ w rfl ⟨fun _ _ => rfl, fun _ _ h => h⟩ s0 _ fun e nx S β a w' ⟨he, hs, b, hb, hB⟩ s => ?_
  obtain ⟨c, hc, hv⟩ := results_run (f := fn) s (by rw [F.rseq]; exact F.res) (by rw [F.rseq]; exact hs)
  rw [F.rseq] at hv
  rw [hb] at hv
  obtain ⟨xs, hcx, hxl, hxr⟩ := hv.tup_inv
  match xs, hxl with
  | [c1, c2], _ =>
  have h0 := hxr 0 (by simp)
  have h1 := hxr 1 (by simp)
  simp only [av_zero, av_succ, cv, List.getD_cons_zero, List.getD_cons_succ] at h0 h1
  have hy : c2 = y := h1.v_inv
  rw [hy] at hcx
  obtain ⟨gm, hcβ, hcs⟩ := h0.mapv_inv
  have fin : a.defers = [] ∧ ∃ v, (results fn a.tmps).run P w' = .ok v w' ∧ ∃ c, Ending.returned v = .returned (.tuple #[c, y]) ∧ Keeps w w' ∧
      (∃ g fv, MapFits (fun g => g < w'.heap.size ∧ (ok g ∨ w.heap.size ≤ g) ∧ blkOf c ≠ some g) w' ks ws c g fv) ∧ ∀ g, blkOf c = some g → w.heap.size ≤ g := by
    refine ⟨s.df, c, hc, c1, by rw [hcx], ⟨s.os, s.tape, s.out, s.size, fun g hg => s.keep g hg id⟩, ?_, fun g hg => ?_⟩
    · obtain ⟨xs, hf⟩ := s.bl b _ hB
      obtain ⟨fv, hf⟩ := hf
      have hcc : c1 = β b := by rw [hcs, hcβ]
      rw [← hcc] at hf
      exact ⟨xs, fv, hf.eq, hf.at_, hf.len, fun i hi => (hf.val i hi).mono fun g hg => ⟨⟨hg.1, hg.2.1, by rw [hcc]; exact hg.2.2 b _ hB⟩, rfl⟩⟩
    · have hcc : c1 = β b := by rw [hcs, hcβ]
      rw [hcc] at hg
      rcases s.mine b _ g hB hg with h | h
      · exact h.elim
      · exact h
  rcases he with rfl | rfl <;> exact fin
end fns
theorem callTM_of {P : Program} {f : FuncId} {S : AState} {nm : Nat} {vs : List AV} {ks : List ByteArray} {ws : List AV} {y : Value} (h1 : PureTwoM P f (lows S vs) ks ws y) (h2 : nm ∉ (hls S vs).map (·.1)) (h3 : (hls S vs).map (·.1) = [] ∨ ∀ y ∈ ws, Dry y) :
    (effCall P S nm ⟨.tup [.mapv nm, .v y], [(nm, some (.map ks ws))], hls S vs⟩ f vs).side := by
  have hs : ∀ p ∈ hls S vs, S.h p.1 = some p.2 := fun p hp => by
    obtain ⟨x, _, hx⟩ := List.mem_flatMap.1 hp
    exact hlOf_spec S.h 8 x p hx
  refine ⟨hs, fun p hp => by simp at hp; exact .inl (by rw [hp]), h2, CallC.twoM h1 (by simp [lows]) (fun j hj => ?_) h2 (h3.imp (fun e => by simpa using e) id)⟩
  have e : av (lows S vs) j = low S.h 8 (av vs j) := by simp [lows, av, List.getD_eq_getElem?_getD, hj]
  rw [e]
  exact lower_low S.h hs 8 _ fun p hp => List.mem_flatMap.2 ⟨_, av_mem hj, hp⟩
theorem st_ctm {P : Program} {d : Option Nat} {op : AOp} {deps : List Nat} {r : List AOper} {nm : Nat} {t : Nat → AV} {h : Nat → Option Blk} {K : AState → Prop} {f : FuncId} {vs lv : List AV} {ns : List (Nat × Blk)} {ks : List ByteArray} {ws : List AV} {y : Value} (hc : callee ⟨t, h⟩ op = some (f, vs)) (hl : lows ⟨t, h⟩ vs = lv) (hn : hls ⟨t, h⟩ vs = ns) (hp : PureTwoM P f lv ks ws y) (hd : ns = [] ∨ ∀ y ∈ ws, Dry y) (hm : nm ∉ ns.map (·.1)) (hk : aops P r (nm + 1) ⟨putT t d (.tup [.mapv nm, .v y]), upd h nm (some (.map ks ws))⟩ K) : aops P (⟨d, op, none, deps⟩ :: r) nm ⟨t, h⟩ K := by
  subst hl; subst hn
  obtain ⟨e1, e2⟩ := eff_callee (P := P) (nm := nm) (an := ⟨.tup [.mapv nm, .v y], [(nm, some (.map ks ws))], hls ⟨t, h⟩ vs⟩) hc
  exact aops_call (P := P) ⟨.tup [.mapv nm, .v y], [(nm, some (.map ks ws))], hls ⟨t, h⟩ vs⟩ (choosy_of_call e2) (by rw [e1]; exact callTM_of hp hm (hd.imp (fun e => by rw [e]; rfl) id)) (by rw [e1]; exact hk)
end Go.Ab
namespace Go.Proofs
open Go Go.Ab
set_option maxHeartbeats 8000000
set_option maxRecDepth 100000
attribute [local irreducible] Awp aops aopsL Go.Ab.Pure PureOwn PureTwoM

def Hid (p : Prop) : Prop := p
def hasK (K : List ByteArray) (s : ByteArray) : Bool := K.any (fun x => s.toList == x.toList)
theorem mapIx_none {K : List ByteArray} {s : ByteArray} : mapIx K s = none ↔ hasK K s = false := by
  unfold mapIx hasK
  rw [List.findIdx?_eq_none_iff, List.any_eq_false]
  simp
theorem mapIx_has {K : List ByteArray} {s : ByteArray} (h : hasK K s = true) : ∃ i, mapIx K s = some i ∧ i < K.length := by
  cases hm : mapIx K s with
  | none => rw [mapIx_none.1 hm] at h; cases h
  | some i => exact ⟨i, rfl, mapIx_lt hm⟩
def ids (l : List Wk) : List ByteArray := l.map (·.id)
def avs (l : List Wk) : List AV := l.map Wk.av
@[go_sem] theorem ids_len (l : List Wk) : (ids l).length = l.length := by simp [ids]
theorem avs_at (l : List Wk) (i : Nat) (h : i < l.length) : av (avs l) i = .agg (l.getD i zeroWk).cells := by
  simp [avs, av, List.getD_eq_getElem?_getD, h, Wk.av]
@[go_sem] theorem evo_mapnone (S : AState) : evo S (.c (.map none)) = .v (.map none) := rfl
def zAv : AV := .agg [.v (.string ⟨⟨[]⟩⟩), .v (.int .i64 (0)), .v (.int .i64 (0)), .v (.int .i64 (0)), .nils]
theorem val_has {l : List Wk} {s : ByteArray} (z : AV) (h : hasK (ids l) s = true) : ∃ q : Wk, mapVal (avs l) z (mapIx (ids l) s) = .agg q.cells := by
  obtain ⟨i, hi, hl⟩ := mapIx_has h
  rw [ids_len] at hl
  exact ⟨l.getD i zeroWk, by rw [hi]; exact avs_at l i hl⟩
theorem val_no {l : List Wk} {s : ByteArray} (z : AV) (h : hasK (ids l) s = false) : mapVal (avs l) z (mapIx (ids l) s) = z := by rw [mapIx_none.2 h]; rfl
theorem isSome_has {K : List ByteArray} {s : ByteArray} : (mapIx K s).isSome = hasK K s := by
  cases h : hasK K s
  · rw [mapIx_none.2 h]; rfl
  · obtain ⟨i, hi, _⟩ := mapIx_has h; rw [hi]; rfl
theorem put_no {l : List Wk} {q : Wk} (h : hasK (ids l) q.id = false) : putK (ids l) q.id (mapIx (ids l) q.id) = ids (l ++ [q]) ∧ putV (avs l) (.agg q.cells) (mapIx (ids l) q.id) = avs (l ++ [q]) := by
  rw [mapIx_none.2 h]
  exact ⟨by simp [putK, ids], by simp [putV, avs, Wk.av]⟩
theorem firstE_zero (f : Nat → Int) (n : Nat) : firstE f n = 0 ↔ ∀ i, i < n → f i = 0 := by
  constructor
  · intro h i hi
    unfold firstE at h
    cases hf : (List.range n).find? (fun i => f i != 0) with
    | none =>
      rw [List.find?_eq_none] at hf
      have := hf i (List.mem_range.2 hi)
      simpa using this
    | some j =>
      rw [hf] at h
      have := List.find?_some hf
      simp only [bne_iff_ne, ne_eq] at this
      exact absurd h this
  · intro h
    exact firstE_end (Nat.le_refl n) fun j hj => h j hj
theorem from_ok (n a b : Int) : Pure Tryz.prog 61 [.v (.int .i64 n), .v (.int .i64 a), .v (.int .i64 b)] (.v (.bool (decide (a ≤ n) && decide (n ≤ b)))) := by
  refine fn_pure Tryz.F61 (Nat.le_of_ble_eq_true rfl) ?_; unfold Tryz.ac61 AR AM AO
  repeat' (first
 | (apply Awp.sreg; (case hn => (simp only [List.length_cons, List.length_nil, Nat.reduceAdd] <;> rfl)))
 | (refine st_nil ?_)
 | (apply st_a; (case hc => rfl); (case he => (simp only [go_sem, *] <;> rfl)); (case hu => (simp only [updL_nil, updL_cons] <;> rfl)); (case hp => first | trivial))
 | (apply st_m; (case hc => rfl); (case hg => (simp only [go_sem, *] <;> rfl)); (case he => (intro hQz; (try simp only [wantB_t, wantB_f, Bool.and_eq_true, Bool.not_eq_true', Bool.not_true, Bool.not_false, and_true, true_and] at hQz); simp only [go_sem, *] <;> rfl)); (case hp => (intro hQz; (try simp only [wantB_t, wantB_f, Bool.and_eq_true, Bool.not_eq_true', Bool.or_eq_false_iff, decide_eq_true_eq, decide_eq_false_iff_not, beq_iff_eq, beq_eq_false_iff_ne, bne_iff_ne, bne_eq_false_iff_eq, Int.not_lt, Int.not_le, Int.ofNat_lt, Int.ofNat_le] at hQz); first | trivial)))
 | (refine Awp.ret ?_; try simp only [go_sem, *]))
  all_goals repeat' (first | exact Lower.bool (by first | rfl | (simp only [true_and, Bool.true_and, Bool.false_and, Bool.and_true, Bool.and_false, Bool.true_or, Bool.false_or, reduceIte, Bool.false_eq_true, *]; done) | (simp only [true_and, reduceIte, Bool.false_eq_true, *] <;> rfl) | (simp [true_and]; done) | (simp_all [true_and]; done) | omega))
def rngW (q : Wk) : Bool := !(decide (1 ≤ q.hr) && decide (q.hr ≤ 1048576)) || !(decide (1 ≤ q.len) && decide (q.len ≤ 524288)) || !(decide (1 ≤ q.wid) && decide (q.wid ≤ 524288))
def badW (l : List Wk) (i : Nat) : Int := if !idB (l.getD i zeroWk).id then 6 else if hasK (ids (l.take i)) (l.getD i zeroWk).id then 7 else if rngW (l.getD i zeroWk) then 9 else 0
def wantB (l : List Wk) (q : Wk) : Bool := q.af.all (hasK (ids l))
def jobsE (l : List Wk) : Int := if (l.length : Int) > 128 then 4 else if firstE (badW l) l.length ≠ 0 then firstE (badW l) l.length else if l.all (wantB l) then 0 else 8
def jbS (l : List Wk) (i : Nat) : AState := mkS [(0, .sl (wks l)), (4, .mapv 0), (19, .sl (wks l)), (20, .v (.int .i64 l.length)), (21, .v (.int .i64 i))] [(0, .map (ids (l.take i)) (avs (l.take i)))]
def jb2S (l : List Wk) (i : Nat) : AState := mkS [(0, .sl (wks l)), (4, .mapv 0), (58, .sl (wks l)), (59, .v (.int .i64 l.length)), (60, .v (.int .i64 i))] [(0, .map (ids l) (avs l))]
theorem ids_take1 {l : List Wk} {i : Nat} (h : i < l.length) : l.take (i + 1) = l.take i ++ [l.getD i zeroWk] := by
  rw [List.take_add_one, List.getElem?_eq_getElem h]
  simp [List.getD_eq_getElem?_getD, h]
theorem jobsE_long {l : List Wk} (h : (l.length : Int) > 128) : jobsE l = 4 := by unfold jobsE; rw [if_pos h]
theorem jobsE_bad {l : List Wk} (h : ¬ (l.length : Int) > 128) (hb : firstE (badW l) l.length ≠ 0) : jobsE l = firstE (badW l) l.length := by unfold jobsE; rw [if_neg h, if_pos hb]
theorem jobsE_want {l : List Wk} (h : ¬ (l.length : Int) > 128) (hb : firstE (badW l) l.length = 0) (i : Nat) (hi : i < l.length) (hw : wantB l (l.getD i zeroWk) = false) : jobsE l = 8 := by
  unfold jobsE
  rw [if_neg h, if_neg (by simp [hb]), if_neg]
  simp only [Bool.not_eq_true, List.all_eq_false]
  refine ⟨l.getD i zeroWk, ?_, hw⟩
  rw [List.getD_eq_getElem?_getD, List.getElem?_eq_getElem hi]; exact List.getElem_mem hi
theorem jobsE_ok {l : List Wk} (h : ¬ (l.length : Int) > 128) (hb : firstE (badW l) l.length = 0) (hw : ∀ j, j < l.length → wantB l (l.getD j zeroWk) = true) : jobsE l = 0 := by
  unfold jobsE
  rw [if_neg h, if_neg (by simp [hb]), if_pos]
  rw [List.all_eq_true]
  intro x hx
  obtain ⟨j, hj, rfl⟩ := List.getElem_of_mem hx
  have := hw j hj
  rwa [List.getD_eq_getElem?_getD, List.getElem?_eq_getElem hj] at this
theorem want_bad {l : List Wk} {q : Wk} {k : Nat} (hk : k < q.af.length) (h : hasK (ids l) (q.af.getD k ⟨#[]⟩) = false) : wantB l q = false := by
  unfold wantB
  rw [List.all_eq_false]
  refine ⟨q.af.getD k ⟨#[]⟩, ?_, by simp only [h, Bool.false_eq_true, not_false_eq_true]⟩
  rw [List.getD_eq_getElem?_getD, List.getElem?_eq_getElem hk]; exact List.getElem_mem hk
theorem want_end {l : List Wk} {q : Wk} {k : Nat} (hk : q.af.length ≤ k) (h : ∀ j, j < k → hasK (ids l) (q.af.getD j ⟨#[]⟩) = true) : wantB l q = true := by
  unfold wantB
  rw [List.all_eq_true]
  intro x hx
  obtain ⟨j, hj, rfl⟩ := List.getElem_of_mem hx
  have := h j (by omega)
  rwa [List.getD_eq_getElem?_getD, List.getElem?_eq_getElem hj] at this
def jb3S (l : List Wk) (i : Nat) (q : Wk) (k : Nat) : AState := mkS [(0, .sl (wks l)), (4, .mapv 0), (58, .sl (wks l)), (59, .v (.int .i64 l.length)), (60, .v (.int .i64 i)), (65, .sl (strs q.af)), (66, .v (.int .i64 q.af.length)), (67, .v (.int .i64 k))] [(0, .map (ids l) (avs l))]
theorem jobs_bad (l : List Wk) (hl : l.length < 1000000) (ha : ∀ q ∈ l, q.af.length < 1000000) (h : jobsE l ≠ 0) : Pure Tryz.prog 37 [.sl (wks l)] (.tup [.v (.map none), .v (.int .i64 (jobsE l))]) := by
  by_cases hlong : (l.length : Int) > 128
  · have hE := jobsE_long hlong
    clear h
    refine fn_pure Tryz.F37 (Nat.le_of_ble_eq_true rfl) ?_; unfold Tryz.ac37 AR AM AO
    repeat' (first
 | (apply Awp.sreg; (case hn => (simp only [List.length_cons, List.length_nil, Nat.reduceAdd] <;> rfl)))
 | (refine st_nil ?_)
 | (apply st_a; (case hc => rfl); (case he => (simp only [go_sem, *] <;> rfl)); (case hu => (simp only [updL_nil, updL_cons] <;> rfl)); (case hp => first | trivial))
 | (refine Awp.ret ?_; try simp only [go_sem, *])
 | (apply Awp.cond; (case hc => (simp only [go_sem, *] <;> rfl)); all_goals (intro hg; (try simp only [Bool.not_true, Bool.not_false, reduceCtorEq] at hg); (try have hg' := hg); (try simp only [decide_eq_true_eq, decide_eq_false_iff_not, Bool.and_eq_true, Bool.or_eq_false_iff, bne_iff_ne, bne_eq_false_iff_eq, beq_iff_eq, beq_eq_false_iff_ne, Int.not_lt, Int.not_le, Int.ofNat_lt, Int.ofNat_le, Int.natCast_inj] at hg')))
 | refine Awp.seq ?_)
    all_goals repeat' (first | exact Lower.int (by first | rfl | (simp only [true_and, Bool.true_and, Bool.false_and, Bool.and_true, Bool.and_false, Bool.true_or, Bool.false_or, reduceIte, Bool.false_eq_true, *]; done) | (simp only [true_and, reduceIte, Bool.false_eq_true, *] <;> rfl) | (simp [true_and]; done) | (simp_all [true_and]; done) | omega) | exact Lower.same _ rfl | refine Lower.tupF ?_ | refine All2.cons ?_ ?_ | exact All2.nil)
  refine fn_pure Tryz.F37 (Nat.le_of_ble_eq_true rfl) ?_; unfold Tryz.ac37 AR AM AO
  repeat' (first
 | (apply Awp.sreg; (case hn => (simp only [List.length_cons, List.length_nil, Nat.reduceAdd] <;> rfl)))
 | (refine st_nil ?_)
 | (apply st_a; (case hc => rfl); (case he => (simp only [go_sem, *] <;> rfl)); (case hu => (simp only [updL_nil, updL_cons] <;> rfl)); (case hp => first | trivial))
 | (refine Awp.skip ?_; try simp only [go_sem, *])
 | refine Awp.block ?_
 | (apply Awp.cond; (case hc => (simp only [go_sem, *] <;> rfl)); all_goals (intro hg; (try simp only [Bool.not_true, Bool.not_false, reduceCtorEq] at hg)))
 | refine Awp.seq ?_)
  refine Awp.loop (fun i : Nat => i ≤ l.length ∧ ∀ j, j < i → badW l j = 0) 200 (fun i => jbS l i) (fun i => l.length - i) 0 (by simp) ?_ ?_
  · unfold jbS
    (apply Ghost.mk [(0, 5)] []; (case hdead => rfl); (case hinj => rfl); (case hV => (simp only [go_sem, *]) <;> (repeat' (first | refine And.intro ?_ ?_ | exact View.int (by first | rfl | omega | (simp; done) | (rw [wrap_i64] <;> (try simp only [Int.natCast_add]) <;> omega) | (simp [*]; done)) | exact .mapv rfl (by decide)))); (case hB => (simp only [go_sem, *]) <;> (repeat' (first | exact ⟨_, rfl, BView.mapE (by first | rfl | omega | (simp; done) | (rw [wrap_i64] <;> (try simp only [Int.natCast_add]) <;> omega) | (simp [*]; done)) (by first | rfl | omega | (simp; done) | (rw [wrap_i64] <;> (try simp only [Int.natCast_add]) <;> omega) | (simp [*]; done))⟩))))
  · intro i ⟨hi, hj⟩
    by_cases hlt : i < l.length
    · have hlt' : (i : Int) < l.length := by omega
      have hat := wks_at l i hlt
      have hz : ((l.getD i zeroWk).cells).length = 5 := rfl
      have c0 := isid_ok (l.getD i zeroWk).id
      have c1 := from_ok (l.getD i zeroWk).hr 1 1048576
      have c2 := from_ok (l.getD i zeroWk).len 1 524288
      have c3 := from_ok (l.getD i zeroWk).wid 1 524288
      have hbad : ∀ {e : Int}, badW l i = e → e ≠ 0 → jobsE l = e := fun h he => by
        have := firstE_bad hlt (by rw [h]; exact he) hj
        rw [jobsE_bad hlong (by rw [this, h]; exact he), this, h]
      have hs : badW l i = if !idB (l.getD i zeroWk).id then 6 else if hasK (ids (l.take i)) (l.getD i zeroWk).id then 7 else if rngW (l.getD i zeroWk) then 9 else 0 := rfl
      have ht1 := ids_take1 hlt
      clear hlong h
      cases h1 : idB (l.getD i zeroWk).id
      · rw [h1] at hs c0
        have hf := hbad (e := 6) (by rw [hs]; rfl) (by decide)
        clear hbad hs hj ht1
        unfold jbS
        repeat' (first
 | (apply Awp.sreg; (case hn => (simp only [List.length_cons, List.length_nil, Nat.reduceAdd] <;> rfl)))
 | (refine st_nil ?_)
 | (apply st_a; (case hc => rfl); (case he => (simp only [go_sem, *] <;> rfl)); (case hu => (simp only [updL_nil, updL_cons] <;> rfl)); (case hp => first | trivial | omega))
 | (apply st_c; (case hc => (simp only [go_sem, *] <;> rfl)); (case hl => (simp only [go_sem, *] <;> rfl)); (case hn => (simp only [go_sem, *] <;> rfl)); (case hp => first | exact c0 | (have hXz := c0; simp only [go_sem, *] at hXz; exact hXz)))
 | (refine Awp.ret ?_; try simp only [go_sem, *])
 | (refine Awp.skip ?_; try simp only [go_sem, *])
 | refine Awp.block ?_
 | (apply Awp.cond; (case hc => (simp only [go_sem, *] <;> rfl)); all_goals (intro hg; (try simp only [Bool.not_true, Bool.not_false, reduceCtorEq] at hg)))
 | refine Awp.seq ?_)
        all_goals repeat' (first | exact Lower.int (by first | rfl | (simp only [true_and, Bool.true_and, Bool.false_and, Bool.and_true, Bool.and_false, Bool.true_or, Bool.false_or, reduceIte, Bool.false_eq_true, *]; done) | (simp only [true_and, reduceIte, Bool.false_eq_true, *] <;> rfl) | (simp [true_and]; done) | (simp_all [true_and]; done) | omega) | exact Lower.same _ rfl | refine Lower.tupF ?_ | refine All2.cons ?_ ?_ | exact All2.nil)
      rw [h1] at hs c0
      have hsm := @isSome_has (ids (l.take i)) (l.getD i zeroWk).id
      cases h2 : hasK (ids (l.take i)) (l.getD i zeroWk).id
      case true =>
        rw [h2] at hs hsm
        obtain ⟨q2, hv⟩ := val_has zAv h2
        unfold zAv at hv
        have hz2 : q2.cells.length = 5 := rfl
        have hf := hbad (e := 7) (by rw [hs]; rfl) (by decide)
        clear hbad hs hj ht1 h2
        unfold jbS
        repeat' (first
 | (apply Awp.sreg; (case hn => (simp only [List.length_cons, List.length_nil, Nat.reduceAdd] <;> rfl)))
 | (refine st_nil ?_)
 | (apply st_a; (case hc => rfl); (case he => (simp only [go_sem, *] <;> rfl)); (case hu => (simp only [updL_nil, updL_cons] <;> rfl)); (case hp => first | trivial | omega))
 | (apply st_c; (case hc => (simp only [go_sem, *] <;> rfl)); (case hl => (simp only [go_sem, *] <;> rfl)); (case hn => (simp only [go_sem, *] <;> rfl)); (case hp => first | exact c0 | (have hXz := c0; simp only [go_sem, *] at hXz; exact hXz)))
 | (refine Awp.ret ?_; try simp only [go_sem, *])
 | (refine Awp.skip ?_; try simp only [go_sem, *])
 | refine Awp.block ?_
 | (apply Awp.cond; (case hc => (simp only [go_sem, *] <;> rfl)); all_goals (intro hg; (try simp only [Bool.not_true, Bool.not_false, reduceCtorEq] at hg)))
 | refine Awp.seq ?_)
        all_goals repeat' (first | exact Lower.int (by first | rfl | (simp only [true_and, Bool.true_and, Bool.false_and, Bool.and_true, Bool.and_false, Bool.true_or, Bool.false_or, reduceIte, Bool.false_eq_true, *]; done) | (simp only [true_and, reduceIte, Bool.false_eq_true, *] <;> rfl) | (simp [true_and]; done) | (simp_all [true_and]; done) | omega) | exact Lower.same _ rfl | refine Lower.tupF ?_ | refine All2.cons ?_ ?_ | exact All2.nil)
      rw [h2] at hs hsm
      have hv := val_no zAv h2
      unfold zAv at hv
      obtain ⟨hp1, hp2⟩ := put_no h2
      rw [← ht1] at hp1 hp2
      simp only [Wk.cells] at hp2
      clear h2 ht1
      cases h3 : rngW (l.getD i zeroWk)
      case true =>
        rw [h3] at hs
        have hf := hbad (e := 9) (by rw [hs]; rfl) (by decide)
        clear hbad hs hj hp1 hp2
        unfold rngW at h3
        unfold jbS
        repeat' (first
 | (apply Awp.sreg; (case hn => (simp only [List.length_cons, List.length_nil, Nat.reduceAdd] <;> rfl)))
 | (refine st_nil ?_)
 | (apply st_a; (case hc => rfl); (case he => (simp only [go_sem, *] <;> rfl)); (case hu => (simp only [updL_nil, updL_cons] <;> rfl)); (case hp => first | trivial | omega))
 | (apply st_m; (case hc => rfl); (case hg => (simp only [go_sem, *] <;> rfl)); (case he => (intro hQz; (try simp only [wantB_t, wantB_f, Bool.and_eq_true, Bool.not_eq_true', Bool.not_true, Bool.not_false, and_true, true_and] at hQz); simp only [go_sem, *] <;> rfl)); (case hp => (intro hQz; (try simp only [wantB_t, wantB_f, Bool.and_eq_true, Bool.not_eq_true', Bool.or_eq_false_iff, decide_eq_true_eq, decide_eq_false_iff_not, beq_iff_eq, beq_eq_false_iff_ne, bne_iff_ne, bne_eq_false_iff_eq, Int.not_lt, Int.not_le, Int.ofNat_lt, Int.ofNat_le] at hQz); first | trivial)))
 | (apply st_c; (case hc => (simp only [go_sem, *] <;> rfl)); (case hl => (simp only [go_sem, *] <;> rfl)); (case hn => (simp only [go_sem, *] <;> rfl)); (case hp => first | exact c0 | (have hXz := c0; simp only [go_sem, *] at hXz; exact hXz)))
 | (apply st_c; (case hc => (simp only [go_sem, *] <;> rfl)); (case hl => (simp only [go_sem, *] <;> rfl)); (case hn => (simp only [go_sem, *] <;> rfl)); (case hp => first | exact c1 | (have hXz := c1; simp only [go_sem, *] at hXz; exact hXz)))
 | (apply st_mc; (case hop => rfl); (case hg => (simp only [go_sem, *] <;> rfl)); (case hc => (intro hQz; (try simp only [wantB_t, wantB_f, Bool.and_eq_true, Bool.not_eq_true', Bool.not_true, Bool.not_false, and_true, true_and] at hQz); simp only [go_sem, *] <;> rfl)); (case hl => (intro hQz; (try simp only [wantB_t, wantB_f, Bool.and_eq_true, Bool.not_eq_true', Bool.not_true, Bool.not_false, and_true, true_and] at hQz); simp only [go_sem, *] <;> rfl)); (case hn => (intro hQz; (try simp only [wantB_t, wantB_f, Bool.and_eq_true, Bool.not_eq_true', Bool.not_true, Bool.not_false, and_true, true_and] at hQz); simp only [go_sem, *] <;> rfl)); (case hp => intro hQz; first | exact c2 | (have hXz := c2; simp only [go_sem, *] at hXz; exact hXz)))
 | (apply st_mc; (case hop => rfl); (case hg => (simp only [go_sem, *] <;> rfl)); (case hc => (intro hQz; (try simp only [wantB_t, wantB_f, Bool.and_eq_true, Bool.not_eq_true', Bool.not_true, Bool.not_false, and_true, true_and] at hQz); simp only [go_sem, *] <;> rfl)); (case hl => (intro hQz; (try simp only [wantB_t, wantB_f, Bool.and_eq_true, Bool.not_eq_true', Bool.not_true, Bool.not_false, and_true, true_and] at hQz); simp only [go_sem, *] <;> rfl)); (case hn => (intro hQz; (try simp only [wantB_t, wantB_f, Bool.and_eq_true, Bool.not_eq_true', Bool.not_true, Bool.not_false, and_true, true_and] at hQz); simp only [go_sem, *] <;> rfl)); (case hp => intro hQz; first | exact c3 | (have hXz := c3; simp only [go_sem, *] at hXz; exact hXz)))
 | (refine Awp.ret ?_; try simp only [go_sem, *])
 | (refine Awp.skip ?_; try simp only [go_sem, *])
 | refine Awp.block ?_
 | (apply Awp.cond; (case hc => (simp only [go_sem, *] <;> rfl)); all_goals (intro hg; (try simp only [Bool.not_true, Bool.not_false, reduceCtorEq] at hg)))
 | refine Awp.seq ?_)
        all_goals repeat' (first | exact Lower.int (by first | rfl | (simp only [true_and, Bool.true_and, Bool.false_and, Bool.and_true, Bool.and_false, Bool.true_or, Bool.false_or, reduceIte, Bool.false_eq_true, *]; done) | (simp only [true_and, reduceIte, Bool.false_eq_true, *] <;> rfl) | (simp [true_and]; done) | (simp_all [true_and]; done) | omega) | exact Lower.same _ rfl | refine Lower.tupF ?_ | refine All2.cons ?_ ?_ | exact All2.nil)
      rw [h3] at hs
      have hnx := ltSucc hj hs
      clear hbad hs hj
      unfold rngW at h3
      unfold jbS
      repeat' (first
 | (apply Awp.sreg; (case hn => (simp only [List.length_cons, List.length_nil, Nat.reduceAdd] <;> rfl)))
 | (refine st_nil ?_)
 | (apply st_a; (case hc => rfl); (case he => (simp only [go_sem, *] <;> rfl)); (case hu => (simp only [updL_nil, updL_cons] <;> rfl)); (case hp => first | trivial | omega))
 | (apply st_m; (case hc => rfl); (case hg => (simp only [go_sem, *] <;> rfl)); (case he => (intro hQz; (try simp only [wantB_t, wantB_f, Bool.and_eq_true, Bool.not_eq_true', Bool.not_true, Bool.not_false, and_true, true_and] at hQz); simp only [go_sem, *] <;> rfl)); (case hp => (intro hQz; (try simp only [wantB_t, wantB_f, Bool.and_eq_true, Bool.not_eq_true', Bool.or_eq_false_iff, decide_eq_true_eq, decide_eq_false_iff_not, beq_iff_eq, beq_eq_false_iff_ne, bne_iff_ne, bne_eq_false_iff_eq, Int.not_lt, Int.not_le, Int.ofNat_lt, Int.ofNat_le] at hQz); first | trivial)))
 | (apply st_c; (case hc => (simp only [go_sem, *] <;> rfl)); (case hl => (simp only [go_sem, *] <;> rfl)); (case hn => (simp only [go_sem, *] <;> rfl)); (case hp => first | exact c0 | (have hXz := c0; simp only [go_sem, *] at hXz; exact hXz)))
 | (apply st_c; (case hc => (simp only [go_sem, *] <;> rfl)); (case hl => (simp only [go_sem, *] <;> rfl)); (case hn => (simp only [go_sem, *] <;> rfl)); (case hp => first | exact c1 | (have hXz := c1; simp only [go_sem, *] at hXz; exact hXz)))
 | (apply st_mc; (case hop => rfl); (case hg => (simp only [go_sem, *] <;> rfl)); (case hc => (intro hQz; (try simp only [wantB_t, wantB_f, Bool.and_eq_true, Bool.not_eq_true', Bool.not_true, Bool.not_false, and_true, true_and] at hQz); simp only [go_sem, *] <;> rfl)); (case hl => (intro hQz; (try simp only [wantB_t, wantB_f, Bool.and_eq_true, Bool.not_eq_true', Bool.not_true, Bool.not_false, and_true, true_and] at hQz); simp only [go_sem, *] <;> rfl)); (case hn => (intro hQz; (try simp only [wantB_t, wantB_f, Bool.and_eq_true, Bool.not_eq_true', Bool.not_true, Bool.not_false, and_true, true_and] at hQz); simp only [go_sem, *] <;> rfl)); (case hp => intro hQz; first | exact c2 | (have hXz := c2; simp only [go_sem, *] at hXz; exact hXz)))
 | (apply st_mc; (case hop => rfl); (case hg => (simp only [go_sem, *] <;> rfl)); (case hc => (intro hQz; (try simp only [wantB_t, wantB_f, Bool.and_eq_true, Bool.not_eq_true', Bool.not_true, Bool.not_false, and_true, true_and] at hQz); simp only [go_sem, *] <;> rfl)); (case hl => (intro hQz; (try simp only [wantB_t, wantB_f, Bool.and_eq_true, Bool.not_eq_true', Bool.not_true, Bool.not_false, and_true, true_and] at hQz); simp only [go_sem, *] <;> rfl)); (case hn => (intro hQz; (try simp only [wantB_t, wantB_f, Bool.and_eq_true, Bool.not_eq_true', Bool.not_true, Bool.not_false, and_true, true_and] at hQz); simp only [go_sem, *] <;> rfl)); (case hp => intro hQz; first | exact c3 | (have hXz := c3; simp only [go_sem, *] at hXz; exact hXz)))
 | (apply Awp.reg; (case hn => (simp only [List.length_cons, List.length_nil, Nat.reduceAdd] <;> rfl)))
 | (refine Awp.skip ?_; try simp only [go_sem, *])
 | refine Awp.block ?_
 | (apply Awp.cond; (case hc => (simp only [go_sem, *] <;> rfl)); all_goals (intro hg; (try simp only [Bool.not_true, Bool.not_false, reduceCtorEq] at hg)))
 | refine Awp.seq ?_)
      refine ⟨i + 1, ⟨by omega, hnx⟩, by omega, ?_⟩
      (apply Ghost.mk [] []; (case hdead => rfl); (case hinj => rfl); (case hV => (simp only [go_sem, *]) <;> (repeat' (first | refine And.intro ?_ ?_ | exact View.int (by first | rfl | omega | (simp; done) | (rw [wrap_i64] <;> (try simp only [Int.natCast_add]) <;> omega) | (simp [*]; done)) | exact .mapv rfl (by decide)))); (case hB => (simp only [go_sem, *]) <;> (repeat' (first | exact ⟨_, rfl, BView.mapE (by first | rfl | omega | (simp; done) | (rw [wrap_i64] <;> (try simp only [Int.natCast_add]) <;> omega) | (simp [*]; done)) (by first | rfl | omega | (simp; done) | (rw [wrap_i64] <;> (try simp only [Int.natCast_add]) <;> omega) | (simp [*]; done))⟩))))
    · have hlt' : ¬ (i : Int) < l.length := by omega
      have hf := firstE_end (Nat.le_of_not_lt hlt) hj
      clear hj
      obtain rfl : i = l.length := by omega
      have htk : l.take l.length = l := List.take_length
      unfold jbS
      rw [htk]
      repeat' (first
 | (apply Awp.sreg; (case hn => (simp only [List.length_cons, List.length_nil, Nat.reduceAdd] <;> rfl)))
 | (refine st_nil ?_)
 | (apply st_a; (case hc => rfl); (case he => (simp only [go_sem, *] <;> rfl)); (case hu => (simp only [updL_nil, updL_cons] <;> rfl)); (case hp => first | trivial))
 | (refine Awp.exit ?_; try simp only [go_sem, *])
 | refine Awp.block ?_
 | (apply Awp.cond; (case hc => (simp only [go_sem, *] <;> rfl)); all_goals (intro hg; (try simp only [Bool.not_true, Bool.not_false, reduceCtorEq] at hg)))
 | refine Awp.seq ?_)
      refine Awp.loop (fun i : Nat => i ≤ l.length ∧ ∀ j, j < i → wantB l (l.getD j zeroWk) = true) 300 (fun i => jb2S l i) (fun i => l.length - i) 0 (by simp) ?_ ?_
      · unfold jb2S
        (apply Ghost.mk [(0, 0)] []; (case hdead => rfl); (case hinj => rfl); (case hV => (simp only [go_sem, *]) <;> (repeat' (first | refine And.intro ?_ ?_ | exact View.int (by first | rfl | omega | (simp; done) | (rw [wrap_i64] <;> (try simp only [Int.natCast_add]) <;> omega) | (simp [*]; done)) | exact .mapv rfl (by decide)))); (case hB => (simp only [go_sem, *]) <;> (repeat' (first | exact ⟨_, rfl, BView.mapE (by first | rfl | omega | (simp; done) | (rw [wrap_i64] <;> (try simp only [Int.natCast_add]) <;> omega) | (simp [*]; done)) (by first | rfl | omega | (simp; done) | (rw [wrap_i64] <;> (try simp only [Int.natCast_add]) <;> omega) | (simp [*]; done))⟩))))
      · intro i ⟨hi, hj⟩
        by_cases hlt : i < l.length
        · have hlt' : (i : Int) < l.length := by omega
          have hat := wks_at l i hlt
          have hz : ((l.getD i zeroWk).cells).length = 5 := rfl
          have hal : (l.getD i zeroWk).af.length < 1000000 := ha _ (by rw [List.getD_eq_getElem?_getD, List.getElem?_eq_getElem hlt]; exact List.getElem_mem hlt)
          have hwb := jobsE_want hlong hf i hlt
          clear hf h htk
          unfold jb2S
          repeat' (first
 | (apply Awp.sreg; (case hn => (simp only [List.length_cons, List.length_nil, Nat.reduceAdd] <;> rfl)))
 | (refine st_nil ?_)
 | (apply st_a; (case hc => rfl); (case he => (simp only [go_sem, *] <;> rfl)); (case hu => (simp only [updL_nil, updL_cons] <;> rfl)); (case hp => first | trivial | omega))
 | (refine Awp.skip ?_; try simp only [go_sem, *])
 | refine Awp.block ?_
 | (apply Awp.cond; (case hc => (simp only [go_sem, *] <;> rfl)); all_goals (intro hg; (try simp only [Bool.not_true, Bool.not_false, reduceCtorEq] at hg)))
 | refine Awp.seq ?_)
          refine Awp.loop (fun k : Nat => k ≤ (l.getD i zeroWk).af.length ∧ ∀ j, j < k → hasK (ids l) ((l.getD i zeroWk).af.getD j ⟨#[]⟩) = true) 400 (fun k => jb3S l i (l.getD i zeroWk) k) (fun k => (l.getD i zeroWk).af.length - k) 0 (by simp) ?_ ?_
          · unfold jb3S
            (apply Ghost.mk [(0, 0)] []; (case hdead => rfl); (case hinj => rfl); (case hV => (simp only [go_sem, *]) <;> (repeat' (first | refine And.intro ?_ ?_ | exact View.int (by first | rfl | omega | (simp; done) | (rw [wrap_i64] <;> (try simp only [Int.natCast_add]) <;> omega) | (simp [*]; done)) | exact .mapv rfl (by decide)))); (case hB => (simp only [go_sem, *]) <;> (repeat' (first | exact ⟨_, rfl, BView.mapE (by first | rfl | omega | (simp; done) | (rw [wrap_i64] <;> (try simp only [Int.natCast_add]) <;> omega) | (simp [*]; done)) (by first | rfl | omega | (simp; done) | (rw [wrap_i64] <;> (try simp only [Int.natCast_add]) <;> omega) | (simp [*]; done))⟩))))
          · intro k ⟨hk, hkj⟩
            by_cases hkt : k < (l.getD i zeroWk).af.length
            · have hkt' : (k : Int) < (l.getD i zeroWk).af.length := by omega
              have hsat := strs_at (l.getD i zeroWk).af k hkt
              have hsm := @isSome_has (ids l) ((l.getD i zeroWk).af.getD k ⟨#[]⟩)
              cases h2 : hasK (ids l) ((l.getD i zeroWk).af.getD k ⟨#[]⟩)
              · rw [h2] at hsm
                have hv := val_no zAv h2
                have hE := hwb (want_bad hkt h2)
                unfold zAv at hv
                clear h2 hkj hj hwb
                unfold jb3S
                repeat' (first
 | (apply Awp.sreg; (case hn => (simp only [List.length_cons, List.length_nil, Nat.reduceAdd] <;> rfl)))
 | (refine st_nil ?_)
 | (apply st_a; (case hc => rfl); (case he => (simp only [go_sem, *] <;> rfl)); (case hu => (simp only [updL_nil, updL_cons] <;> rfl)); (case hp => first | trivial | omega))
 | (refine Awp.ret ?_; try simp only [go_sem, *])
 | (refine Awp.skip ?_; try simp only [go_sem, *])
 | refine Awp.block ?_
 | (apply Awp.cond; (case hc => (simp only [go_sem, *] <;> rfl)); all_goals (intro hg; (try simp only [Bool.not_true, Bool.not_false, reduceCtorEq] at hg)))
 | refine Awp.seq ?_)
                all_goals repeat' (first | exact Lower.int (by first | rfl | (simp only [true_and, Bool.true_and, Bool.false_and, Bool.and_true, Bool.and_false, Bool.true_or, Bool.false_or, reduceIte, Bool.false_eq_true, *]; done) | (simp only [true_and, reduceIte, Bool.false_eq_true, *] <;> rfl) | (simp [true_and]; done) | (simp_all [true_and]; done) | omega) | exact Lower.same _ rfl | refine Lower.tupF ?_ | refine All2.cons ?_ ?_ | exact All2.nil)
              · rw [h2] at hsm
                obtain ⟨q2, hv⟩ := val_has zAv h2
                have hz2 : q2.cells.length = 5 := rfl
                have hnx := ltSucc hkj h2
                unfold zAv at hv
                clear h2 hkj hj hwb
                unfold jb3S
                repeat' (first
 | (apply Awp.sreg; (case hn => (simp only [List.length_cons, List.length_nil, Nat.reduceAdd] <;> rfl)))
 | (refine st_nil ?_)
 | (apply st_a; (case hc => rfl); (case he => (simp only [go_sem, *] <;> rfl)); (case hu => (simp only [updL_nil, updL_cons] <;> rfl)); (case hp => first | trivial | omega))
 | (apply Awp.reg; (case hn => (simp only [List.length_cons, List.length_nil, Nat.reduceAdd] <;> rfl)))
 | (refine Awp.skip ?_; try simp only [go_sem, *])
 | refine Awp.block ?_
 | (apply Awp.cond; (case hc => (simp only [go_sem, *] <;> rfl)); all_goals (intro hg; (try simp only [Bool.not_true, Bool.not_false, reduceCtorEq] at hg)))
 | refine Awp.seq ?_)
                refine ⟨k + 1, ⟨by omega, hnx⟩, by omega, ?_⟩
                (apply Ghost.mk [] []; (case hdead => rfl); (case hinj => rfl); (case hV => (simp only [go_sem, *]) <;> (repeat' (first | refine And.intro ?_ ?_ | exact View.int (by first | rfl | omega | (simp; done) | (rw [wrap_i64] <;> (try simp only [Int.natCast_add]) <;> omega) | (simp [*]; done)) | exact .mapv rfl (by decide)))); (case hB => (simp only [go_sem, *]) <;> (repeat' (first | exact ⟨_, rfl, BView.mapE (by first | rfl | omega | (simp; done) | (rw [wrap_i64] <;> (try simp only [Int.natCast_add]) <;> omega) | (simp [*]; done)) (by first | rfl | omega | (simp; done) | (rw [wrap_i64] <;> (try simp only [Int.natCast_add]) <;> omega) | (simp [*]; done))⟩))))
            · have hkt' : ¬ (k : Int) < (l.getD i zeroWk).af.length := by omega
              have hnx := ltSucc hj (want_end (Nat.le_of_not_lt hkt) hkj)
              clear hkj hj hwb
              unfold jb3S
              repeat' (first
 | (apply Awp.sreg; (case hn => (simp only [List.length_cons, List.length_nil, Nat.reduceAdd] <;> rfl)))
 | (refine st_nil ?_)
 | (apply st_a; (case hc => rfl); (case he => (simp only [go_sem, *] <;> rfl)); (case hu => (simp only [updL_nil, updL_cons] <;> rfl)); (case hp => first | trivial))
 | (apply Awp.reg; (case hn => (simp only [List.length_cons, List.length_nil, Nat.reduceAdd] <;> rfl)))
 | (refine Awp.exit ?_; try simp only [go_sem, *])
 | (apply Awp.cond; (case hc => (simp only [go_sem, *] <;> rfl)); all_goals (intro hg; (try simp only [Bool.not_true, Bool.not_false, reduceCtorEq] at hg)))
 | refine Awp.seq ?_)
              refine ⟨i + 1, ⟨by omega, hnx⟩, by omega, ?_⟩
              (apply Ghost.mk [] []; (case hdead => rfl); (case hinj => rfl); (case hV => (simp only [go_sem, *]) <;> (repeat' (first | refine And.intro ?_ ?_ | exact View.int (by first | rfl | omega | (simp; done) | (rw [wrap_i64] <;> (try simp only [Int.natCast_add]) <;> omega) | (simp [*]; done)) | exact .mapv rfl (by decide)))); (case hB => (simp only [go_sem, *]) <;> (repeat' (first | exact ⟨_, rfl, BView.mapE (by first | rfl | omega | (simp; done) | (rw [wrap_i64] <;> (try simp only [Int.natCast_add]) <;> omega) | (simp [*]; done)) (by first | rfl | omega | (simp; done) | (rw [wrap_i64] <;> (try simp only [Int.natCast_add]) <;> omega) | (simp [*]; done))⟩))))
        · exact absurd (jobsE_ok hlong hf fun j hjl => hj j (by omega)) h
theorem jobsE_inv {l : List Wk} (h : jobsE l = 0) : ¬ (l.length : Int) > 128 ∧ (∀ i, i < l.length → badW l i = 0) ∧ ∀ q ∈ l, wantB l q = true := by
  unfold jobsE at h
  split at h
  · cases h
  · rename_i h1
    split at h
    · rename_i h2; exact absurd h h2
    · rename_i h2
      split at h
      · rename_i h3
        refine ⟨h1, (firstE_zero _ _).1 (by simpa using h2), List.all_eq_true.1 h3⟩
      · cases h
theorem badW_inv {l : List Wk} {i : Nat} (h : badW l i = 0) : idB (l.getD i zeroWk).id = true ∧ hasK (ids (l.take i)) (l.getD i zeroWk).id = false ∧ rngW (l.getD i zeroWk) = false := by
  unfold badW at h
  split at h
  · cases h
  · rename_i h1
    split at h
    · cases h
    · rename_i h2
      split at h
      · cases h
      · rename_i h3
        exact ⟨by simpa using h1, by simpa using h2, by simpa using h3⟩
theorem getD_mem {α : Type} {l : List α} {i : Nat} (d : α) (h : i < l.length) : l.getD i d ∈ l := by
  rw [List.getD_eq_getElem?_getD, List.getElem?_eq_getElem h]; exact List.getElem_mem h
theorem jobs_ok (l : List Wk) (ha : ∀ q ∈ l, q.af.length < 1000000) (h : jobsE l = 0) : PureTwoM Tryz.prog 37 [.sl (wks l)] (ids l) (avs l) (.int .i64 0) := by
  obtain ⟨hlong, hb, hw⟩ := jobsE_inv h
  clear h
  have hl : l.length < 1000000 := by omega
  refine fn_twoM Tryz.F37 (Nat.le_of_ble_eq_true rfl) ?_; unfold Tryz.ac37 AR AM AO
  repeat' (first
 | (apply Awp.sreg; (case hn => (simp only [List.length_cons, List.length_nil, Nat.reduceAdd] <;> rfl)))
 | (refine st_nil ?_)
 | (apply st_a; (case hc => rfl); (case he => (simp only [go_sem, *] <;> rfl)); (case hu => (simp only [updL_nil, updL_cons] <;> rfl)); (case hp => first | trivial))
 | (refine Awp.skip ?_; try simp only [go_sem, *])
 | refine Awp.block ?_
 | (apply Awp.cond; (case hc => (simp only [go_sem, *] <;> rfl)); all_goals (intro hg; (try simp only [Bool.not_true, Bool.not_false, reduceCtorEq] at hg)))
 | refine Awp.seq ?_)
  refine Awp.loop (fun i : Nat => i ≤ l.length) 200 (fun i => jbS l i) (fun i => l.length - i) 0 (by simp) ?_ ?_
  · unfold jbS
    (apply Ghost.mk [(0, 5)] []; (case hdead => rfl); (case hinj => rfl); (case hV => (simp only [go_sem, *]) <;> (repeat' (first | refine And.intro ?_ ?_ | exact View.int (by first | rfl | omega | (simp; done) | (rw [wrap_i64] <;> (try simp only [Int.natCast_add]) <;> omega) | (simp [*]; done)) | exact .mapv rfl (by decide)))); (case hB => (simp only [go_sem, *]) <;> (repeat' (first | exact ⟨_, rfl, BView.mapE (by first | rfl | omega | (simp; done) | (rw [wrap_i64] <;> (try simp only [Int.natCast_add]) <;> omega) | (simp [*]; done)) (by first | rfl | omega | (simp; done) | (rw [wrap_i64] <;> (try simp only [Int.natCast_add]) <;> omega) | (simp [*]; done))⟩))))
  · intro i hi
    by_cases hlt : i < l.length
    · have hlt' : (i : Int) < l.length := by omega
      have hat := wks_at l i hlt
      have hz : ((l.getD i zeroWk).cells).length = 5 := rfl
      obtain ⟨h1, h2, h3⟩ := badW_inv (hb i hlt)
      have c0 := isid_ok (l.getD i zeroWk).id
      rw [h1] at c0
      have c1 := from_ok (l.getD i zeroWk).hr 1 1048576
      have c2 := from_ok (l.getD i zeroWk).len 1 524288
      have c3 := from_ok (l.getD i zeroWk).wid 1 524288
      have ht1 := ids_take1 hlt
      have hsm := @isSome_has (ids (l.take i)) (l.getD i zeroWk).id
      rw [h2] at hsm
      have hv := val_no zAv h2
      unfold zAv at hv
      obtain ⟨hp1, hp2⟩ := put_no h2
      rw [← ht1] at hp1 hp2
      simp only [Wk.cells] at hp2
      clear h2 ht1 hb hw
      unfold rngW at h3
      unfold jbS
      repeat' (first
 | (apply Awp.sreg; (case hn => (simp only [List.length_cons, List.length_nil, Nat.reduceAdd] <;> rfl)))
 | (refine st_nil ?_)
 | (apply st_a; (case hc => rfl); (case he => (simp only [go_sem, *] <;> rfl)); (case hu => (simp only [updL_nil, updL_cons] <;> rfl)); (case hp => first | trivial | omega))
 | (apply st_m; (case hc => rfl); (case hg => (simp only [go_sem, *] <;> rfl)); (case he => (intro hQz; (try simp only [wantB_t, wantB_f, Bool.and_eq_true, Bool.not_eq_true', Bool.not_true, Bool.not_false, and_true, true_and] at hQz); simp only [go_sem, *] <;> rfl)); (case hp => (intro hQz; (try simp only [wantB_t, wantB_f, Bool.and_eq_true, Bool.not_eq_true', Bool.or_eq_false_iff, decide_eq_true_eq, decide_eq_false_iff_not, beq_iff_eq, beq_eq_false_iff_ne, bne_iff_ne, bne_eq_false_iff_eq, Int.not_lt, Int.not_le, Int.ofNat_lt, Int.ofNat_le] at hQz); first | trivial)))
 | (apply st_c; (case hc => (simp only [go_sem, *] <;> rfl)); (case hl => (simp only [go_sem, *] <;> rfl)); (case hn => (simp only [go_sem, *] <;> rfl)); (case hp => first | exact c0 | (have hXz := c0; simp only [go_sem, *] at hXz; exact hXz)))
 | (apply st_c; (case hc => (simp only [go_sem, *] <;> rfl)); (case hl => (simp only [go_sem, *] <;> rfl)); (case hn => (simp only [go_sem, *] <;> rfl)); (case hp => first | exact c1 | (have hXz := c1; simp only [go_sem, *] at hXz; exact hXz)))
 | (apply st_mc; (case hop => rfl); (case hg => (simp only [go_sem, *] <;> rfl)); (case hc => (intro hQz; (try simp only [wantB_t, wantB_f, Bool.and_eq_true, Bool.not_eq_true', Bool.not_true, Bool.not_false, and_true, true_and] at hQz); simp only [go_sem, *] <;> rfl)); (case hl => (intro hQz; (try simp only [wantB_t, wantB_f, Bool.and_eq_true, Bool.not_eq_true', Bool.not_true, Bool.not_false, and_true, true_and] at hQz); simp only [go_sem, *] <;> rfl)); (case hn => (intro hQz; (try simp only [wantB_t, wantB_f, Bool.and_eq_true, Bool.not_eq_true', Bool.not_true, Bool.not_false, and_true, true_and] at hQz); simp only [go_sem, *] <;> rfl)); (case hp => intro hQz; first | exact c2 | (have hXz := c2; simp only [go_sem, *] at hXz; exact hXz)))
 | (apply st_mc; (case hop => rfl); (case hg => (simp only [go_sem, *] <;> rfl)); (case hc => (intro hQz; (try simp only [wantB_t, wantB_f, Bool.and_eq_true, Bool.not_eq_true', Bool.not_true, Bool.not_false, and_true, true_and] at hQz); simp only [go_sem, *] <;> rfl)); (case hl => (intro hQz; (try simp only [wantB_t, wantB_f, Bool.and_eq_true, Bool.not_eq_true', Bool.not_true, Bool.not_false, and_true, true_and] at hQz); simp only [go_sem, *] <;> rfl)); (case hn => (intro hQz; (try simp only [wantB_t, wantB_f, Bool.and_eq_true, Bool.not_eq_true', Bool.not_true, Bool.not_false, and_true, true_and] at hQz); simp only [go_sem, *] <;> rfl)); (case hp => intro hQz; first | exact c3 | (have hXz := c3; simp only [go_sem, *] at hXz; exact hXz)))
 | (apply Awp.reg; (case hn => (simp only [List.length_cons, List.length_nil, Nat.reduceAdd] <;> rfl)))
 | (refine Awp.skip ?_; try simp only [go_sem, *])
 | refine Awp.block ?_
 | (apply Awp.cond; (case hc => (simp only [go_sem, *] <;> rfl)); all_goals (intro hg; (try simp only [Bool.not_true, Bool.not_false, reduceCtorEq] at hg)))
 | refine Awp.seq ?_)
      refine ⟨i + 1, by omega, by omega, ?_⟩
      (apply Ghost.mk [] []; (case hdead => rfl); (case hinj => rfl); (case hV => (simp only [go_sem, *]) <;> (repeat' (first | refine And.intro ?_ ?_ | exact View.int (by first | rfl | omega | (simp; done) | (rw [wrap_i64] <;> (try simp only [Int.natCast_add]) <;> omega) | (simp [*]; done)) | exact .mapv rfl (by decide)))); (case hB => (simp only [go_sem, *]) <;> (repeat' (first | exact ⟨_, rfl, BView.mapE (by first | rfl | omega | (simp; done) | (rw [wrap_i64] <;> (try simp only [Int.natCast_add]) <;> omega) | (simp [*]; done)) (by first | rfl | omega | (simp; done) | (rw [wrap_i64] <;> (try simp only [Int.natCast_add]) <;> omega) | (simp [*]; done))⟩))))
    · have hlt' : ¬ (i : Int) < l.length := by omega
      obtain rfl : i = l.length := by omega
      have htk : l.take l.length = l := List.take_length
      clear hb
      unfold jbS
      rw [htk]
      repeat' (first
 | (apply Awp.sreg; (case hn => (simp only [List.length_cons, List.length_nil, Nat.reduceAdd] <;> rfl)))
 | (refine st_nil ?_)
 | (apply st_a; (case hc => rfl); (case he => (simp only [go_sem, *] <;> rfl)); (case hu => (simp only [updL_nil, updL_cons] <;> rfl)); (case hp => first | trivial))
 | (refine Awp.exit ?_; try simp only [go_sem, *])
 | refine Awp.block ?_
 | (apply Awp.cond; (case hc => (simp only [go_sem, *] <;> rfl)); all_goals (intro hg; (try simp only [Bool.not_true, Bool.not_false, reduceCtorEq] at hg)))
 | refine Awp.seq ?_)
      refine Awp.loop (fun i : Nat => i ≤ l.length) 300 (fun i => jb2S l i) (fun i => l.length - i) 0 (by simp) ?_ ?_
      · unfold jb2S
        (apply Ghost.mk [(0, 0)] []; (case hdead => rfl); (case hinj => rfl); (case hV => (simp only [go_sem, *]) <;> (repeat' (first | refine And.intro ?_ ?_ | exact View.int (by first | rfl | omega | (simp; done) | (rw [wrap_i64] <;> (try simp only [Int.natCast_add]) <;> omega) | (simp [*]; done)) | exact .mapv rfl (by decide)))); (case hB => (simp only [go_sem, *]) <;> (repeat' (first | exact ⟨_, rfl, BView.mapE (by first | rfl | omega | (simp; done) | (rw [wrap_i64] <;> (try simp only [Int.natCast_add]) <;> omega) | (simp [*]; done)) (by first | rfl | omega | (simp; done) | (rw [wrap_i64] <;> (try simp only [Int.natCast_add]) <;> omega) | (simp [*]; done))⟩))))
      · intro i hi
        by_cases hlt : i < l.length
        · have hlt' : (i : Int) < l.length := by omega
          have hat := wks_at l i hlt
          have hz : ((l.getD i zeroWk).cells).length = 5 := rfl
          have hal : (l.getD i zeroWk).af.length < 1000000 := ha _ (getD_mem _ hlt)
          have hwb := hw _ (getD_mem zeroWk hlt)
          clear htk hw ha
          unfold jb2S
          repeat' (first
 | (apply Awp.sreg; (case hn => (simp only [List.length_cons, List.length_nil, Nat.reduceAdd] <;> rfl)))
 | (refine st_nil ?_)
 | (apply st_a; (case hc => rfl); (case he => (simp only [go_sem, *] <;> rfl)); (case hu => (simp only [updL_nil, updL_cons] <;> rfl)); (case hp => first | trivial | omega))
 | (refine Awp.skip ?_; try simp only [go_sem, *])
 | refine Awp.block ?_
 | (apply Awp.cond; (case hc => (simp only [go_sem, *] <;> rfl)); all_goals (intro hg; (try simp only [Bool.not_true, Bool.not_false, reduceCtorEq] at hg)))
 | refine Awp.seq ?_)
          refine Awp.loop (fun k : Nat => k ≤ (l.getD i zeroWk).af.length) 400 (fun k => jb3S l i (l.getD i zeroWk) k) (fun k => (l.getD i zeroWk).af.length - k) 0 (by simp) ?_ ?_
          · unfold jb3S
            (apply Ghost.mk [(0, 0)] []; (case hdead => rfl); (case hinj => rfl); (case hV => (simp only [go_sem, *]) <;> (repeat' (first | refine And.intro ?_ ?_ | exact View.int (by first | rfl | omega | (simp; done) | (rw [wrap_i64] <;> (try simp only [Int.natCast_add]) <;> omega) | (simp [*]; done)) | exact .mapv rfl (by decide)))); (case hB => (simp only [go_sem, *]) <;> (repeat' (first | exact ⟨_, rfl, BView.mapE (by first | rfl | omega | (simp; done) | (rw [wrap_i64] <;> (try simp only [Int.natCast_add]) <;> omega) | (simp [*]; done)) (by first | rfl | omega | (simp; done) | (rw [wrap_i64] <;> (try simp only [Int.natCast_add]) <;> omega) | (simp [*]; done))⟩))))
          · intro k hk
            by_cases hkt : k < (l.getD i zeroWk).af.length
            · have hkt' : (k : Int) < (l.getD i zeroWk).af.length := by omega
              have hsat := strs_at (l.getD i zeroWk).af k hkt
              have h2 : hasK (ids l) ((l.getD i zeroWk).af.getD k ⟨#[]⟩) = true := List.all_eq_true.1 hwb _ (getD_mem _ hkt)
              have hsm := @isSome_has (ids l) ((l.getD i zeroWk).af.getD k ⟨#[]⟩)
              rw [h2] at hsm
              obtain ⟨q2, hv⟩ := val_has zAv h2
              have hz2 : q2.cells.length = 5 := rfl
              unfold zAv at hv
              clear h2 hwb
              unfold jb3S
              repeat' (first
 | (apply Awp.sreg; (case hn => (simp only [List.length_cons, List.length_nil, Nat.reduceAdd] <;> rfl)))
 | (refine st_nil ?_)
 | (apply st_a; (case hc => rfl); (case he => (simp only [go_sem, *] <;> rfl)); (case hu => (simp only [updL_nil, updL_cons] <;> rfl)); (case hp => first | trivial | omega))
 | (apply Awp.reg; (case hn => (simp only [List.length_cons, List.length_nil, Nat.reduceAdd] <;> rfl)))
 | (refine Awp.skip ?_; try simp only [go_sem, *])
 | refine Awp.block ?_
 | (apply Awp.cond; (case hc => (simp only [go_sem, *] <;> rfl)); all_goals (intro hg; (try simp only [Bool.not_true, Bool.not_false, reduceCtorEq] at hg)))
 | refine Awp.seq ?_)
              refine ⟨k + 1, by omega, by omega, ?_⟩
              (apply Ghost.mk [] []; (case hdead => rfl); (case hinj => rfl); (case hV => (simp only [go_sem, *]) <;> (repeat' (first | refine And.intro ?_ ?_ | exact View.int (by first | rfl | omega | (simp; done) | (rw [wrap_i64] <;> (try simp only [Int.natCast_add]) <;> omega) | (simp [*]; done)) | exact .mapv rfl (by decide)))); (case hB => (simp only [go_sem, *]) <;> (repeat' (first | exact ⟨_, rfl, BView.mapE (by first | rfl | omega | (simp; done) | (rw [wrap_i64] <;> (try simp only [Int.natCast_add]) <;> omega) | (simp [*]; done)) (by first | rfl | omega | (simp; done) | (rw [wrap_i64] <;> (try simp only [Int.natCast_add]) <;> omega) | (simp [*]; done))⟩))))
            · have hkt' : ¬ (k : Int) < (l.getD i zeroWk).af.length := by omega
              clear hwb
              unfold jb3S
              repeat' (first
 | (apply Awp.sreg; (case hn => (simp only [List.length_cons, List.length_nil, Nat.reduceAdd] <;> rfl)))
 | (refine st_nil ?_)
 | (apply st_a; (case hc => rfl); (case he => (simp only [go_sem, *] <;> rfl)); (case hu => (simp only [updL_nil, updL_cons] <;> rfl)); (case hp => first | trivial))
 | (apply Awp.reg; (case hn => (simp only [List.length_cons, List.length_nil, Nat.reduceAdd] <;> rfl)))
 | (refine Awp.exit ?_; try simp only [go_sem, *])
 | (apply Awp.cond; (case hc => (simp only [go_sem, *] <;> rfl)); all_goals (intro hg; (try simp only [Bool.not_true, Bool.not_false, reduceCtorEq] at hg)))
 | refine Awp.seq ?_)
              refine ⟨i + 1, by omega, by omega, ?_⟩
              (apply Ghost.mk [] []; (case hdead => rfl); (case hinj => rfl); (case hV => (simp only [go_sem, *]) <;> (repeat' (first | refine And.intro ?_ ?_ | exact View.int (by first | rfl | omega | (simp; done) | (rw [wrap_i64] <;> (try simp only [Int.natCast_add]) <;> omega) | (simp [*]; done)) | exact .mapv rfl (by decide)))); (case hB => (simp only [go_sem, *]) <;> (repeat' (first | exact ⟨_, rfl, BView.mapE (by first | rfl | omega | (simp; done) | (rw [wrap_i64] <;> (try simp only [Int.natCast_add]) <;> omega) | (simp [*]; done)) (by first | rfl | omega | (simp; done) | (rw [wrap_i64] <;> (try simp only [Int.natCast_add]) <;> omega) | (simp [*]; done))⟩))))
        · have hlt' : ¬ (i : Int) < l.length := by omega
          clear hw ha
          unfold jb2S
          repeat' (first
 | (apply Awp.sreg; (case hn => (simp only [List.length_cons, List.length_nil, Nat.reduceAdd] <;> rfl)))
 | (refine st_nil ?_)
 | (apply st_a; (case hc => rfl); (case he => (simp only [go_sem, *] <;> rfl)); (case hu => (simp only [updL_nil, updL_cons] <;> rfl)); (case hp => first | trivial))
 | (refine Awp.ret ?_; try simp only [go_sem, *])
 | (refine Awp.exit ?_; try simp only [go_sem, *])
 | (apply Awp.cond; (case hc => (simp only [go_sem, *] <;> rfl)); all_goals (intro hg; (try simp only [Bool.not_true, Bool.not_false, reduceCtorEq] at hg)))
 | refine Awp.seq ?_)
          refine ⟨_, rfl, rfl⟩
end Go.Proofs
namespace Go.Proofs
open Go Go.RowKit Go.Maps Go.Sort Go.Shelf
/-- A work's five cells. -/
structure W5 where
  s : ByteArray
  h : Int
  l : Int
  w : Int
  p : Option Addr
  n : Nat
  k : Nat
def W5.enc (x : W5) : Value := .agg #[.string x.s, .int .i64 x.h, .int .i64 x.l, .int .i64 x.w, .slice x.p x.n x.k]
attribute [local go_sem] W5.enc
def W5.cells (x : W5) : List Value := [.string x.s, .int .i64 x.h, .int .i64 x.l, .int .i64 x.w, .slice x.p x.n x.k]
def flat5 (ss : List W5) : List Value := ss.flatMap W5.cells
theorem flat5_snoc (ss : List W5) (x : W5) : flat5 (ss ++ [x]) = flat5 ss ++ x.cells := by simp [flat5]
theorem cell_five_new (w : World) (x : W5) (t : TypeId) : ∀ j u, x.cells[j]? = some u → (w.alloc (.cells #[.string x.s, .int .i64 x.h, .int .i64 x.l, .int .i64 x.w, .slice x.p x.n x.k] t)).cell? ((⟨w.heap.size, 0, none⟩ : Addr).add j) = some u := by
  intro j u hj
  unfold W5.cells at hj
  match j, hj with
  | 0, hj => simp at hj; subst hj; simp [Addr.add]
  | 1, hj => simp at hj; subst hj; simp [Addr.add]
  | 2, hj => simp at hj; subst hj; simp [Addr.add]
  | 3, hj => simp at hj; subst hj; simp [Addr.add]
  | 4, hj => simp at hj; subst hj; simp [Addr.add]
  | (j + 5), hj => simp at hj
theorem ownsRow_abides {W W' : World} {row : Option Nat} {base : Nat} {e : TypeId} {size : Nat} {v : Value} {k : Nat} {xs : List Value} (h : W.ownsRow base e size v k xs) (hg : W.grownBy W' row)
    (hrow : ∀ r, row = some r → ∃ o : Obj, W.heap[r]? = some o ∧ o.isWalk = true) : W'.ownsRow base e size v k xs := by
  refine h.kept hg ?_
  rcases h.2 with ⟨rfl, _⟩ | ⟨g, cap, cur, rfl, _, hgb, _⟩
  · exact .inl rfl
  · refine .inr fun e' => ?_
    obtain ⟨o, ho, hw⟩ := hrow g (by simpa [Value.ownBlock] using e'.symm)
    rw [hgb] at ho; cases ho; cases hw

/-- An iterator's word, for a caller's invariant that keeps what lay before. -/
def SeqB {α : Type} (F : Fence) (n : Nat) (P : Program) (g : Nat) (lb : Array Value) (enc : α → Value) (S : List α → Prop) (N : Nat) (w : World) : Prop :=
  ∀ (l : Nat) (J : List α → World → Prop) (W : World), Below w.heap.size w W → AbidesFrom W.heap.size J → (∀ pre A, J pre A → Below w.heap.size w A) →
    (∀ pre x W1, J pre W1 → pre.length < N → YieldAt F (n - 1) P l #[enc x] W1 fun e W' => e = .returned (.bool true) ∧ J (pre ++ [x]) W' ∧ KeepsWalks W1 W') →
    J [] W →
    CallsIn F n P g (#[.func (.yield l) #[] #[]] ++ lb) W fun e W' => (∃ v, e = .returned v) ∧ ∃ xs, S xs ∧ J xs W'
/-- A code's left and right part. -/
def cdA : Code → Code
  | .seq a _ => a
  | .block _ b => b
  | .rangeFunc _ _ a _ => a
  | c => c
def cdB : Code → Code
  | .seq _ b => b
  | .rangeFunc _ _ _ b => b
  | c => c
/-- The range over the iterator in slices.AppendSeq; its round's assignment and body. -/
noncomputable def sqLoop : Code := cdA (cdB (cdA (cdB (Tryz.f82.body.getD .skip))))
noncomputable def sqAssign : Code := cdA sqLoop
noncomputable def sqBody : Code := cdB sqLoop
/-- The loop's record. -/
noncomputable def sqRec (fn : FuncId) (sv : Value) (Bs D : Nat) (st : LoopState) (pend : Option Code) : Loop :=
  { state := st, pending := pend, fn, tmps := #[.slice none 0 0, sv, .pointer (some ⟨Bs, 0, none⟩), undef, .slice none 0 0, undef, sv, undef, undef, undef, undef, undef, undef], params := #[7], assign := sqAssign, body := sqBody, defers := D }
/-- Between two rounds: the box holds a slice that owns what has come so far. -/
structure SqAt (w0 : World) (fn : FuncId) (sv : Value) (Bs l D : Nat) (ss : List W5) (W : World) : Prop where
  box : ∃ v, W.heap[Bs]? = some (.cells #[v] 22 (0, 0)) ∧ W.ownsRow w0.heap.size 53 5 v ss.length (flat5 ss) ∧ (v = .slice none 0 0 ↔ ss = [])
  L : W.heap[l]? = some (.loop (sqRec fn sv Bs D .ready none))
  K : W.heap[D]? = some (.deferred (some []))
  below : Below w0.heap.size w0 W
theorem sq_abides (w0 : World) (fn : FuncId) (sv : Value) (Bs l D B : Nat) (hB : w0.heap.size ≤ B) : AbidesFrom B (SqAt w0 fn sv Bs l D) := fun s W W' row h hg hrow => by
  have hrow' : ∀ r, row = some r → ∃ o : Obj, W.heap[r]? = some o ∧ o.isWalk = true := fun r e => (hrow r e).2
  obtain ⟨v, hv, hr, hn⟩ := h.box
  exact ⟨⟨v, (grownBy_keeps hg hrow' hv rfl).trans hv, ownsRow_abides hr hg hrow', hn⟩, (grownBy_keeps hg hrow' h.L rfl).trans h.L, (grownBy_keeps hg hrow' h.K rfl).trans h.K,
    h.below.grown hg h.below.size (fun k e => Nat.le_trans hB (hrow k e).1)⟩

theorem grownBy_putObj (W : World) (l : Nat) (o : Obj) : W.grownBy (W.putObj l o) (some l) :=
  ⟨rfl, rfl, rfl, by simp, fun k _ hk => World.putObj_heap_other (fun e => hk (by rw [e]))⟩
theorem grownBy_setCell0 (W : World) (b : Nat) (v : Value) : W.grownBy (W.setCell ⟨b, 0, none⟩ v) (some b) :=
  ⟨rfl, rfl, rfl, (KeepsWalks.setCell W _ v).size, fun k _ hk => Below.heap_setCell _ _ _ k (fun e => hk (by rw [e]))⟩
theorem ownsRow_ne {W : World} {base : Nat} {e : TypeId} {size : Nat} {v : Value} {k : Nat} {xs : List Value} (h : W.ownsRow base e size v k xs) {j : Nat} {o : Obj} (hj : W.heap[j]? = some o) (hno : ∀ cur, o ≠ .cells cur e (0, 0)) :
    v.ownBlock = none ∨ v.ownBlock ≠ some j := by
  rcases h.2 with ⟨rfl, _⟩ | ⟨g, cap, cur, rfl, _, hgb, _⟩
  · exact .inl rfl
  · refine .inr fun e' => ?_
    have : g = j := by simpa [Value.ownBlock] using e'
    subst this; rw [hgb] at hj; cases hj; exact hno cur rfl
theorem cell_of_box {W : World} {B : Nat} {v : Value} {t : TypeId} (h : W.heap[B]? = some (.cells #[v] t (0, 0))) : W.cell? ⟨B, 0, none⟩ = some v ∧ W.frozen? ⟨B, 0, none⟩ = false := by
  constructor <;> simp [World.cell?, World.frozen?, h]

theorem heap_setCell_box {W : World} {B : Nat} {v : Value} {t : TypeId} (v' : Value) (h : W.heap[B]? = some (.cells #[v] t (0, 0))) : (W.setCell ⟨B, 0, none⟩ v').heap[B]? = some (.cells #[v'] t (0, 0)) := by
  obtain ⟨hlt, hk⟩ := Array.getElem?_eq_some_iff.1 h
  show (W.heap.modify B _)[B]? = _
  rw [Array.getElem?_eq_getElem (by rw [Array.size_modify]; exact hlt), Array.getElem_modify_self, hk]
  rfl
theorem ownsRow_not_walk {W : World} {base : Nat} {e : TypeId} {size : Nat} {v : Value} {k : Nat} {xs : List Value} (h : W.ownsRow base e size v k xs) : ∀ (j : Nat) (o : Obj), v.ownBlock = some j → W.heap[j]? = some o → o.isWalk = false := by
  intro j o hj ho
  rcases h.2 with ⟨rfl, _⟩ | ⟨g, cap, cur, rfl, _, hgb, _⟩
  · simp [Value.ownBlock] at hj
  · have : g = j := by simpa [Value.ownBlock] using hj
    subst this; rw [hgb] at ho; cases ho; rfl

theorem Tryz.info53w : (Tryz.prog.info? 53).map (fun i => (i.zero, i.size, i.bytes)) = some (some (.agg #[.string ⟨#[]⟩, .int .i64 0, .int .i64 0, .int .i64 0, .slice none 0 0]), 5, 64) := by kernel_rfl
set_option maxRecDepth 100000 in
set_option maxHeartbeats 2000000 in
theorem sqYield (F : Fence) (m : Nat) (w0 : World) (fn : FuncId) (hfn : F.fn fn) (sv : Value) (Bs l D : Nat) (hBl : Bs ≠ l) (hDl : D ≠ l) (hDB : D ≠ Bs) (h0B : w0.heap.size ≤ Bs) (h0l : w0.heap.size ≤ l)
    (N : Nat) (hN : N ≤ maxLen) (hNb : N * 64 ≤ 140737488355328) (ss : List W5) (x : W5) (W : World) (h : SqAt w0 fn sv Bs l D ss W) (hlen : ss.length < N) :
    YieldAt F m Tryz.prog l #[x.enc] W fun e W' => e = .returned (.bool true) ∧ SqAt w0 fn sv Bs l D (ss ++ [x]) W' ∧ KeepsWalks W W' := by
  obtain ⟨i0, hi, hz0, hz1, hz2⟩ := info_parts Tryz.info53w
  obtain ⟨v, hv, hrow, _⟩ := h.box
  refine ⟨fn, #[.slice none 0 0, sv, .pointer (some ⟨Bs, 0, none⟩), undef, .slice none 0 0, undef, sv, x.enc, undef, undef, undef, undef, undef], sqAssign, sqBody, by simpa [sqRec] using run_yield (P := Tryz.prog) (args := #[x.enc]) h.L rfl, roundIn_of_wpIn hfn ?_⟩
  have hl : l < W.heap.size := (Array.getElem?_eq_some_iff.1 h.L).1
  obtain ⟨Wa, hWa⟩ : ∃ Wa, W.alloc (.cells #[.string x.s, .int .i64 x.h, .int .i64 x.l, .int .i64 x.w, .slice x.p x.n x.k] 53) = Wa := ⟨_, rfl⟩
  have hWl : W.heap.size ≠ l := by omega
  have hLa : Wa.heap[l]? = some (.loop (sqRec fn sv Bs D .ready none)) := by rw [← hWa]; exact (Below.heap_alloc _ _ l hl).trans h.L
  have hva : Wa.heap[Bs]? = some (.cells #[v] 22 (0, 0)) := by rw [← hWa]; exact (Below.heap_alloc _ _ Bs (Array.getElem?_eq_some_iff.1 hv).1).trans hv
  have hKa : Wa.heap[D]? = some (.deferred (some [])) := by rw [← hWa]; exact (Below.heap_alloc _ _ D (Array.getElem?_eq_some_iff.1 h.K).1).trans h.K
  have hrowa : Wa.ownsRow w0.heap.size 53 5 v ss.length (flat5 ss) := by rw [← hWa]; exact hrow.alloc _
  have hba : Below w0.heap.size w0 Wa := by rw [← hWa]; exact h.below.alloc h.below.size _
  have hka : KeepsWalks W Wa := by rw [← hWa]; exact KeepsWalks.alloc _ _
  have hxa : Wa.heap[W.heap.size]? = some (.cells #[.string x.s, .int .i64 x.h, .int .i64 x.l, .int .i64 x.w, .slice x.p x.n x.k] 53) := by rw [← hWa]; exact World.alloc_heap_new W _
  have hla : l < Wa.heap.size := (Array.getElem?_eq_some_iff.1 hLa).1
  have hbr := run_beginRound (P := Tryz.prog) hLa rfl
  obtain ⟨W2, hW2⟩ : ∃ W2, Wa.putObj l (.loop { sqRec fn sv Bs D .ready none with state := .busy }) = W2 := ⟨_, rfl⟩
  rw [hW2] at hbr
  have hg2 : Wa.grownBy W2 (some l) := by rw [← hW2]; exact grownBy_putObj _ _ _
  have hk2 : KeepsWalks W W2 := hka.trans (by rw [← hW2]; exact KeepsWalks.putObj _ hLa rfl)
  have hx2 : W2.heap[W.heap.size]? = some (.cells #[.string x.s, .int .i64 x.h, .int .i64 x.l, .int .i64 x.w, .slice x.p x.n x.k] 53) := by rw [← hW2]; exact (World.putObj_heap_other hWl).trans hxa
  have hv2 : W2.heap[Bs]? = some (.cells #[v] 22 (0, 0)) := by rw [← hW2]; exact (World.putObj_heap_other hBl).trans hva
  have hK2 : W2.heap[D]? = some (.deferred (some [])) := by rw [← hW2]; exact (World.putObj_heap_other hDl).trans hKa
  have hL2 : W2.heap[l]? = some (.loop { sqRec fn sv Bs D .ready none with state := .busy }) := by rw [← hW2]; exact World.putObj_heap_same hla
  have hrow2 : W2.ownsRow w0.heap.size 53 5 v ss.length (flat5 ss) := hrowa.kept hg2 (ownsRow_ne hrowa hLa (fun cur e => by cases e))
  have hb2 : Below w0.heap.size w0 W2 := hba.grown hg2 hba.size (fun k e => by cases e; exact h0l)
  obtain ⟨hc2, hf2⟩ := cell_of_box hv2
  have hBlt : Bs < W2.heap.size := (Array.getElem?_eq_some_iff.1 hv2).1
  have hl2 : l < W2.heap.size := (Array.getElem?_eq_some_iff.1 hL2).1
  have hDlt : D < W2.heap.size := (Array.getElem?_eq_some_iff.1 hK2).1
  have ne_of : ∀ {j : Nat} {o : Obj}, W2.heap[j]? = some o → (∀ cur, o ≠ .cells cur 53 (0, 0)) → some j ≠ v.ownBlock := fun hj hno => by
    rcases ownsRow_ne hrow2 hj hno with e | e
    · rw [e]; simp
    · exact fun e' => e e'.symm
  clear hW2
  simp only [sqAssign, sqLoop, Tryz.f82, Option.getD_some, cdA, cdB]
  gi_wp2_with (rw [Oper.semAt_eq _ _ _ (fun c h => by cases h)]; go_simp; try go_bits)
  have x0 : W2.cell? ⟨W.heap.size, 0, none⟩ = some (.string x.s) := by simp [World.cell?, hx2]
  have x1 : W2.cell? ⟨W.heap.size, 1, none⟩ = some (.int .i64 x.h) := by simp [World.cell?, hx2]
  have x2 : W2.cell? ⟨W.heap.size, 2, none⟩ = some (.int .i64 x.l) := by simp [World.cell?, hx2]
  have x3 : W2.cell? ⟨W.heap.size, 3, none⟩ = some (.int .i64 x.w) := by simp [World.cell?, hx2]
  have x4 : W2.cell? ⟨W.heap.size, 4, none⟩ = some (.slice x.p x.n x.k) := by simp [World.cell?, hx2]
  clear hWa hxa hx2
  simp only [sqBody, sqLoop, Tryz.f82, Option.getD_some, cdA, cdB]
  gi_wp2_with (first
    | (gi_at_builtin; refine wpListIn_append_own _ rfl _ _ 22 rfl w0.heap.size 53 i0 (.agg #[.string ⟨#[]⟩, .int .i64 0, .int .i64 0, .int .i64 0, .slice none 0 0]) 5 64 Tryz.underlying22 hi hz0 hz1 hz2 rfl (by decide) _ _ _ rfl (hrow2.alloc _) ⟨W2.heap.size, 0, none⟩ 1 1 x.cells rfl rfl (cell_five_new _ _ _) (by simp [Value.oneCell', W5.cells]) (by omega) (by omega) (by have := hb2.size; simp; omega) ?_; intro v' w3 hown' hg3 hnil3
       have hv3 : w3.heap[Bs]? = some (.cells #[v] 22 (0, 0)) := (hg3.block Bs (by simp; omega) (ne_of hv2 (fun cur e => by cases e))).trans ((Below.heap_alloc _ _ Bs hBlt).trans hv2)
       obtain ⟨hc3, hf3⟩ := cell_of_box hv3
       obtain ⟨g', cap', cur', rfl, hbase', hgb', hr1, hr2, hr3, hr4⟩ : ∃ g' cap' cur', v' = .slice (some ⟨g', 0, none⟩) (ss.length + 1) cap' ∧ w0.heap.size ≤ g' ∧ w3.heap[g']? = some (.cells cur' 53 (0, 0)) ∧ ss.length + 1 ≤ cap' ∧ cap' ≤ maxLen ∧ cur'.size = cap' * 5 ∧ cur'.toList.take ((ss.length + 1) * 5) = flat5 ss ++ x.cells := by
         rcases hown'.2 with ⟨_, h0⟩ | h'
         · exact absurd h0 (by omega)
         · exact h'
       simp only [Act.put, List.setIfInBounds_toArray, List.set_cons_succ, List.set_cons_zero])
    | (rw [Oper.semAt_eq _ _ _ (fun c h => by cases h)]; go_simp; try go_bits))
  have hg3' : (W2.alloc (.cells #[.string x.s, .int .i64 x.h, .int .i64 x.l, .int .i64 x.w, .slice x.p x.n x.k] 53)).grownBy w3 v.ownBlock := hg3
  have hL3 : w3.heap[l]? = some (.loop { sqRec fn sv Bs D .ready none with state := .busy }) := (hg3'.block l (by simp; omega) (ne_of hL2 (fun cur e => by cases e))).trans ((Below.heap_alloc _ _ l hl2).trans hL2)
  have hK3 : w3.heap[D]? = some (.deferred (some [])) := (hg3'.block D (by simp; omega) (ne_of hK2 (fun cur e => by cases e))).trans ((Below.heap_alloc _ _ D hDlt).trans hK2)
  obtain ⟨w4, hw4⟩ : ∃ w4, w3.setCell ⟨Bs, 0, none⟩ (.slice (some ⟨g', 0, none⟩) (ss.length + 1) cap') = w4 := ⟨_, rfl⟩
  rw [hw4]
  have hg4 : w3.grownBy w4 (some Bs) := by rw [← hw4]; exact grownBy_setCell0 _ _ _
  have hv4 : w4.heap[Bs]? = some (.cells #[.slice (some ⟨g', 0, none⟩) (ss.length + 1) cap'] 22 (0, 0)) := by rw [← hw4]; exact heap_setCell_box _ hv3
  have hL4 : w4.heap[l]? = some (.loop { sqRec fn sv Bs D .ready none with state := .busy }) := (hg4.block l (Array.getElem?_eq_some_iff.1 hL3).1 (fun e => hBl (by cases e; rfl))).trans hL3
  have hK4 : w4.heap[D]? = some (.deferred (some [])) := (hg4.block D (Array.getElem?_eq_some_iff.1 hK3).1 (fun e => hDB (by cases e; rfl))).trans hK3
  have hrow4 := hown'.kept hg4 (ownsRow_ne hown' hv3 (fun cur e => by cases e))
  have hl4 : l < w4.heap.size := (Array.getElem?_eq_some_iff.1 hL4).1
  have hb3 : Below w0.heap.size w0 w3 := (hb2.alloc hb2.size _).grown hg3' (by have := hb2.size; simp; omega) (fun k e => (hrow2.lt k e).1)
  have hb4 : Below w0.heap.size w0 w4 := hb3.grown hg4 hb3.size (fun k e => by cases e; exact h0B)
  have hk4 : KeepsWalks W w4 := ((hk2.trans (KeepsWalks.alloc _ _)).trans (KeepsWalks.of_grownBy hg3' (ownsRow_not_walk (hrow2.alloc _)))).trans (by rw [← hw4]; exact KeepsWalks.setCell _ _ _)
  clear hw4
  refine ⟨_, _, run_endRound none hL4, rfl, ⟨⟨_, (World.putObj_heap_other hBl).trans hv4, ?_, by simp⟩, World.putObj_heap_same hl4, (World.putObj_heap_other hDl).trans hK4, hb4.grown (grownBy_putObj _ _ _) hb4.size (fun k e => by cases e; exact h0l)⟩, hk4.trans (KeepsWalks.putObj _ hL4 rfl)⟩
  have := hrow4.kept (grownBy_putObj w4 l (.loop { { sqRec fn sv Bs D .ready none with state := .busy } with state := if (none : Option Code).isNone then .ready else .done, pending := none })) (ownsRow_ne hrow4 hL4 (fun cur e => by cases e))
  rw [flat5_snoc]
  simpa using this
set_option maxRecDepth 100000 in
set_option maxHeartbeats 2000000 in
theorem appendSeq_in (F : Fence) (n : Nat) (h11 : F.fn 82) (hro : F.round = none) (hn : 2 ≤ n) (g : Nat) (lb : Array Value) (hFg : F.fn g) (eg : ∀ args w, (callFunc g args).run Tryz.prog w = .ok (.enter g args) w)
    (S : List W5 → Prop) (N : Nat) (hN : N ≤ maxLen) (hNb : N * 64 ≤ 140737488355328) (w : World) (hseq : SeqB F (n - 1) Tryz.prog g lb W5.enc S N w) :
    CallsIn F n Tryz.prog 82 #[.slice none 0 0, .func (.func g) #[] lb] w fun e w' => ∃ (v : Value) (ss : List W5), e = .returned v ∧ S ss ∧ w'.ownsRow w.heap.size 53 5 v ss.length (flat5 ss) ∧ (v = .slice none 0 0 ↔ ss = []) ∧ Below w.heap.size w w' := by
  have h1 : 1 ≤ n := by omega
  refine callsIn_of_wp_marks Tryz.func82 rfl h11 ?_ hro
  simp only [Tryz.ntmps82, List.size_toArray, List.length_cons, List.length_nil, Nat.reduceAdd, Nat.reduceSub, Array.replicate_succ, Array.replicate_zero, List.push_toArray, List.append_toArray, List.nil_append, List.cons_append]
  gi_wp2
  refine wpIn_rangeFunc ?_
  intro fn hfn
  rw [hro]
  obtain ⟨W0, hW0⟩ : ∃ W0, w.alloc (.cells #[.slice none 0 0] 22) = W0 := ⟨_, rfl⟩
  have hs0 : W0.heap.size = w.heap.size + 1 := by rw [← hW0]; simp
  have hv0 : W0.heap[w.heap.size]? = some (.cells #[.slice none 0 0] 22 (0, 0)) := by rw [← hW0]; exact World.alloc_heap_new w _
  have hb0 : Below w.heap.size w W0 := by rw [← hW0]; exact (Below.refl _ w).alloc (Nat.le_refl _) _
  rw [hW0]
  obtain ⟨W1, hW1⟩ : ∃ W1, (W0.alloc (.deferred (some []))).alloc (.loop (sqRec fn (.func (.func g) #[] lb) w.heap.size W0.heap.size .ready none)) = W1 := ⟨_, rfl⟩
  have hold : ∀ k, k < W0.heap.size → W1.heap[k]? = W0.heap[k]? := fun k hk => by
    rw [← hW1]; exact (Below.heap_alloc _ _ k (by simp; omega)).trans (Below.heap_alloc _ _ k hk)
  have hb1 : Below w.heap.size w W1 := by rw [← hW1]; exact (hb0.alloc hb0.size _).alloc (by have := hb0.size; simp; omega) _
  have hs1 : W1.heap.size = W0.heap.size + 2 := by rw [← hW1]; simp
  have hM : SqAt w fn (.func (.func g) #[] lb) w.heap.size (W0.heap.size + 1) W0.heap.size [] W1 :=
    ⟨⟨_, (hold w.heap.size (by omega)).trans hv0, ⟨rfl, .inl ⟨rfl, rfl⟩⟩, by simp⟩,
     by rw [← hW1]; have := World.alloc_heap_new (W0.alloc (.deferred (some []))) (.loop (sqRec fn (.func (.func g) #[] lb) w.heap.size W0.heap.size .ready none)); rwa [World.size_alloc] at this,
     by rw [← hW1]; exact (Below.heap_alloc _ _ _ (by simp)).trans (World.alloc_heap_new W0 _), hb1⟩
  refine ⟨W0.heap.size + 1, [{ target := .collected W0.heap.size, args := #[] }], W1, { target := .fn (.func g) lb, args := #[.func (.yield (W0.heap.size + 1)) #[] #[]] }, W1, g,
    #[.func (.yield (W0.heap.size + 1)) #[] #[]] ++ lb, W1, ?_, ?_, ?_, ?_, fun _ => h1, ?_⟩
  · rw [← hW1]; exact run_enterLoop_outer _ _ _ _ _
  · simp [resolve, go_sem]
  · intro f' hf'; simp [Target.leads] at hf'; subst hf'; exact hFg
  · simp [invoke, go_sem, eg]
  · refine (hseq (W0.heap.size + 1) (SqAt w fn (.func (.func g) #[] lb) w.heap.size (W0.heap.size + 1) W0.heap.size) W1 hb1 (sq_abides _ _ _ _ _ _ _ hb1.size) (fun _ _ h => h.below)
      (fun pre x W hJ hl => sqYield F (n - 1 - 1) w fn hfn _ w.heap.size (W0.heap.size + 1) W0.heap.size (by omega) (by omega) (by omega) (Nat.le_refl _) (by omega) N hN hNb pre x W hJ hl) hM).mono ?_
    rintro e W2 ⟨⟨v0, rfl⟩, ss, hS, h2⟩
    obtain ⟨v, hv, hrow, hnil⟩ := h2.box
    have hend := run_endLoop (P := Tryz.prog) h2.L (by simp [sqRec])
    obtain ⟨W3, hW3⟩ : ∃ W3, W2.putObj (W0.heap.size + 1) (.loop { sqRec fn (.func (.func g) #[] lb) w.heap.size W0.heap.size .ready none with state := .exhausted }) = W3 := ⟨_, rfl⟩
    rw [hW3] at hend
    have hg3 : W2.grownBy W3 (some (W0.heap.size + 1)) := by rw [← hW3]; exact grownBy_putObj _ _ _
    have hv3 : W3.heap[w.heap.size]? = some (.cells #[v] 22 (0, 0)) := by rw [← hW3]; exact (World.putObj_heap_other (by omega)).trans hv
    have hK3 : W3.heap[W0.heap.size]? = some (.deferred (some [])) := by rw [← hW3]; exact (World.putObj_heap_other (by omega)).trans h2.K
    have hrow3 := hrow.kept hg3 (ownsRow_ne hrow h2.L (fun cur e => by cases e))
    have hb3 : Below w.heap.size w W3 := h2.below.grown hg3 h2.below.size (fun k e => by cases e; omega)
    obtain ⟨hc3, hf3⟩ := cell_of_box hv3
    clear hW3
    refine ⟨none, W3, hend, ?_⟩
    gi_wp2
    rw [← hs0]
    refine ⟨by simp, .inl ⟨_, _, rfl, run_takeDeferred hK3, ?_⟩⟩
    exact ⟨_, results_tmp rfl _ _ _, v, ss, rfl, hS, hrow3.kept (grownBy_putObj _ _ _) (ownsRow_ne hrow3 hK3 (fun cur e => by cases e)), hnil, hb3.grown (grownBy_putObj _ _ _) hb3.size (fun k e => by cases e; omega)⟩

set_option maxHeartbeats 1000000 in
theorem collect_in (F : Fence) (n : Nat) (h8 : F.fn 62) (h11 : F.fn 82) (hro : F.round = none) (hn : 3 ≤ n) (g : Nat) (lb : Array Value) (hFg : F.fn g) (eg : ∀ args w, (callFunc g args).run Tryz.prog w = .ok (.enter g args) w)
    (S : List W5 → Prop) (N : Nat) (hN : N ≤ maxLen) (hNb : N * 64 ≤ 140737488355328) (w : World) (hseq : SeqB F (n - 1 - 1) Tryz.prog g lb W5.enc S N w) :
    CallsIn F n Tryz.prog 62 #[.func (.func g) #[] lb] w fun e w' => ∃ (v : Value) (ss : List W5), e = .returned v ∧ S ss ∧ w'.ownsRow w.heap.size 53 5 v ss.length (flat5 ss) ∧ (v = .slice none 0 0 ↔ ss = []) ∧ Below w.heap.size w w' := by
  have h1 : 1 ≤ n := by omega
  refine callsIn_of_wp Tryz.func62 rfl h8 ?_ hro
  simp only [Tryz.ntmps62, List.size_toArray, List.length_cons, List.length_nil, Nat.reduceAdd, Nat.reduceSub, Array.replicate_succ, Array.replicate_zero, List.push_toArray, List.append_toArray, List.nil_append, List.cons_append]
  gi_wp2_with (gi_at_call 82; refine (appendSeq_in F (n - 1) h11 hro (by omega) g lb hFg eg S N hN hNb _ hseq).mono ?_; rintro e w' ⟨v, ss, rfl, hS, hrow, hnil, hb⟩)
  go_ret
  exact ⟨v, ss, rfl, hS, hrow, hnil, hb⟩

end Go.Proofs
namespace Go.Proofs
open Go Go.RowKit Go.Maps Go.Sort Go.Shelf
attribute [local go_sem] W5.enc

def upto5 {α : Type} (f : Nat → α) (k : Nat) : List α := (List.range k).map f
theorem upto5_succ {α : Type} (f : Nat → α) (k : Nat) : upto5 f (k + 1) = upto5 f k ++ [f k] := by simp [upto5, List.range_succ]
theorem upto5_length {α : Type} (f : Nat → α) (k : Nat) : (upto5 f k).length = k := by simp [upto5]
set_option maxRecDepth 100000 in
set_option maxHeartbeats 2000000 in
theorem values1_in (F : Fence) (n : Nat) (h7 : F.fn 64) (hro : F.round = none) (hn : 1 ≤ n) (l Bs bo b off len cap : Nat) (a : Option Addr) (ha : 0 < len → a = some ⟨b, off, none⟩) (f : Nat → W5) (hreach : len * 64 ≤ 140737488351232) (n₀ : Nat) (w₀ : World) (hb : b < n₀) (J : List W5 → World → Prop)
    (hY : ∀ pre x W, J pre W → pre.length < len → YieldAt F (n - 1) Tryz.prog l #[x.enc] W fun e W' => e = .returned (.bool true) ∧ J (pre ++ [x]) W' ∧ KeepsWalks W W')
    (W : World) (hJ : AbidesFrom W.heap.size J) (hJb : ∀ pre A, J pre A → Below n₀ w₀ A) (hBs : W.cell? ⟨Bs, bo, none⟩ = some (.slice a len cap))
    (hc : ∀ j, j < len → w₀.cell? ⟨b, off + j * 5, none⟩ = some (.string (f j).s) ∧ w₀.cell? ⟨b, off + j * 5 + 1, none⟩ = some (.int .i64 (f j).h) ∧ w₀.cell? ⟨b, off + j * 5 + 2, none⟩ = some (.int .i64 (f j).l) ∧ w₀.cell? ⟨b, off + j * 5 + 3, none⟩ = some (.int .i64 (f j).w) ∧ w₀.cell? ⟨b, off + j * 5 + 4, none⟩ = some (.slice (f j).p (f j).n (f j).k)) (h0 : J [] W) :
    CallsIn F n Tryz.prog 64 #[.func (.yield l) #[] #[], .pointer (some ⟨Bs, bo, none⟩)] W fun e W' => (∃ v, e = .returned v) ∧ ∃ ys, ys = upto5 f len ∧ J ys W' := by
  refine callsIn_of_wp Tryz.func64 rfl h7 ?_ hro
  simp only [Tryz.ntmps64, List.size_toArray, List.length_cons, List.length_nil, Nat.reduceAdd, Nat.reduceSub, Array.replicate_succ, Array.replicate_zero, List.push_toArray, List.append_toArray, List.nil_append, List.cons_append]
  gi_wp2
  gi_loopw [7] (fun i wr => ∃ k : Nat, k ≤ len ∧ i = .int .i64 k ∧ J (upto5 f k) wr)
    (fun i _ => len - (intOf i).toNat)
  case atStart => exact ⟨0, Nat.zero_le _, rfl, h0⟩
  case round =>
    obtain ⟨k, hk, rfl, hJs⟩ := hrel
    have hnx := hJb _ _ hJs
    by_cases hlt : k < len
    · obtain rfl := ha (by omega)
      obtain ⟨c0, c1, c2, c3, c4⟩ := hc k hlt
      have d0 := (hnx.cell (p := ⟨b, off + k * 5, none⟩) hb).trans c0
      have d1 := (hnx.cell (p := ⟨b, off + k * 5 + 1, none⟩) hb).trans c1
      have d2 := (hnx.cell (p := ⟨b, off + k * 5 + 2, none⟩) hb).trans c2
      have d3 := (hnx.cell (p := ⟨b, off + k * 5 + 3, none⟩) hb).trans c3
      have d4 := (hnx.cell (p := ⟨b, off + k * 5 + 4, none⟩) hb).trans c4
      clear c0 c1 c2 c3 c4 hc
      obtain ⟨fn, tmps, assign, body, hy, hR⟩ := hY _ (f k) (wr.alloc (.cells #[.string (f k).s, .int .i64 (f k).h, .int .i64 (f k).l, .int .i64 (f k).w, .slice (f k).p (f k).n (f k).k] 53)) (hJ _ wr _ none hJs (World.grownBy_alloc _ _ none) (fun r e => by cases e)) (by rw [upto5_length]; exact hlt)
      unfold W5.enc at hy
      gi_wp2
      refine hR.mono ?_
      rintro e W3 ⟨rfl, hJ3, hk3⟩
      gi_wp2
      go_roundw
      case rel => exact ⟨k + 1, by omega, by simp, by rw [upto5_succ]; exact hJ3⟩
      case measure => simp [intOf]; omega
    · obtain rfl : k = len := by omega
      gi_wp2
      go_end0
      exact ⟨⟨_, rfl⟩, _, rfl, hJs⟩

end Go.Proofs
namespace Go.Proofs
open Go Go.RowKit Go.Maps Go.Sort Go.Shelf Go.Ab
set_option maxHeartbeats 1000000
theorem values_seq (F : Fence) (n : Nat) (h7 : F.fn 64) (hro : F.round = none) (hn : 1 ≤ n) (Bs bo b off len cap : Nat) (a : Option Addr) (ha : 0 < len → a = some ⟨b, off, none⟩) (f : Nat → W5) (hreach : len * 64 ≤ 140737488351232)
    (w : World) (hb : b < w.heap.size) (hBl : Bs < w.heap.size) (hBs : w.cell? ⟨Bs, bo, none⟩ = some (.slice a len cap))
    (hc : ∀ j, j < len → w.cell? ⟨b, off + j * 5, none⟩ = some (.string (f j).s) ∧ w.cell? ⟨b, off + j * 5 + 1, none⟩ = some (.int .i64 (f j).h) ∧ w.cell? ⟨b, off + j * 5 + 2, none⟩ = some (.int .i64 (f j).l) ∧ w.cell? ⟨b, off + j * 5 + 3, none⟩ = some (.int .i64 (f j).w) ∧ w.cell? ⟨b, off + j * 5 + 4, none⟩ = some (.slice (f j).p (f j).n (f j).k)) :
    SeqB F n Tryz.prog 64 #[.pointer (some ⟨Bs, bo, none⟩)] W5.enc (fun ys => ys = upto5 f len) len w := by
  intro l J W hW hJ hJb hY h0
  exact values1_in F n h7 hro hn l Bs bo b off len cap a ha f hreach w.heap.size w hb J hY W hJ hJb ((hW.cell (p := ⟨Bs, bo, none⟩) hBl).trans hBs) hc h0
theorem flat5_at (xs : List W5) (d : W5) (i j : Nat) (hi : i < xs.length) (hj : j < 5) : cv (flat5 xs) (i * 5 + j) = cv (xs.getD i d).cells j := by
  induction xs generalizing i with
  | nil => simp at hi
  | cons x xs ih =>
    cases i with
    | zero =>
      simp only [flat5, List.flatMap_cons, cv, Nat.zero_mul, Nat.zero_add, List.getD_cons_zero]
      rw [List.getD_eq_getElem?_getD, List.getD_eq_getElem?_getD, List.getElem?_append_left (by simp [W5.cells]; omega)]
    | succ i =>
      have h1 := ih i (by simpa using hi)
      simp only [cv, List.getD_cons_succ] at h1 ⊢
      rw [← h1]
      simp only [flat5, List.flatMap_cons]
      rw [List.getD_eq_getElem?_getD, List.getD_eq_getElem?_getD, List.getElem?_append_right (by simp [W5.cells]; omega)]
      congr 2
      simp [W5.cells]; omega
theorem wk_read {st : Nat → Prop} {w : World} {q : Wk} {f : Nat → Value} (h : ∀ j, j < 5 → PureV st w (av q.cells j) (f j)) :
    ∃ x : W5, f 0 = .string x.s ∧ f 1 = .int .i64 x.h ∧ f 2 = .int .i64 x.l ∧ f 3 = .int .i64 x.w ∧ f 4 = .slice x.p x.n x.k := by
  have h0 := h 0 (by omega)
  have h1 := h 1 (by omega)
  have h2 := h 2 (by omega)
  have h3 := h 3 (by omega)
  have h4 := h 4 (by omega)
  simp only [av, Wk.cells, List.getD_cons_zero, List.getD_cons_succ] at h0 h1 h2 h3 h4
  have e : ∃ p n k, f 4 = .slice p n k := by
    generalize f 4 = c at h4
    generalize strs q.af = es at h4
    cases h4 with
    | slE a cap hc => exact ⟨_, _, _, rfl⟩
    | slC => exact ⟨_, _, _, rfl⟩
  obtain ⟨p, n, k, e4⟩ := e
  have vinv : ∀ {x c : Value}, PureV st w (.v x) c → c = x := by intro x c h; cases h; rfl
  exact ⟨⟨q.id, q.hr, q.len, q.wid, p, n, k⟩, vinv h0, vinv h1, vinv h2, vinv h3, e4⟩
instance : Inhabited W5 := ⟨⟨⟨#[]⟩, 0, 0, 0, none, 0, 0⟩⟩
theorem choose_upto {p : Nat → W5 → Prop} {n : Nat} (h : ∀ i, i < n → ∃ x, p i x) : ∃ f : Nat → W5, ∀ i, i < n → p i (f i) := by
  refine ⟨fun i => if hi : i < n then Classical.choose (h i hi) else default, fun i hi => ?_⟩
  simp only [dif_pos hi]
  exact Classical.choose_spec (h i hi)
theorem collect_world (l : List Wk) (hl : l.length < 1000000) (ok : Nat → Prop) (w : World) (c : Value) (h1 : PureV (fun g => g < w.heap.size ∧ ok g) w (.fn 64 [.rp [.sl (wks l)]]) c) :
    Calls Tryz.prog 62 #[c] w fun e w' => ∃ v ss, e = .returned v ∧ ss.length = l.length ∧ w'.ownsRow w.heap.size 53 5 v ss.length (flat5 ss) ∧ RowKit.Below w.heap.size w w' ∧
      ∀ i j, i < l.length → j < 5 → PureV (fun g => g < w.heap.size ∧ ok g) w (av ((wks l).getD i []) j) (cv (ss.getD i default).cells j) := by
  cases h1 with
  | fn _ _ xs hxl hr =>
  match xs, hxl with
  | [p], _ =>
  have h2 := hr 0 (by simp)
  simp only [av_zero, cv, List.getD_cons_zero] at h2
  cases h2 with
  | rp _ g bo fb hst hcell hrb =>
  have h3 := hrb 0 (by simp)
  obtain ⟨hc0, _⟩ := hcell 0 (by simp)
  simp only [av_zero, Nat.add_zero] at h3 hc0
  have main : ∀ (a : Option Addr) (b off cap : Nat) (f : Nat → W5), (0 < l.length → a = some ⟨b, off, none⟩) → (0 < l.length → b < w.heap.size) → fb 0 = .slice a l.length cap →
      (∀ i, i < l.length → ∀ j, j < 5 → w.cell? ⟨b, off + (i * 5 + j), none⟩ = some (cv (f i).cells j)) →
      (∀ i j, i < l.length → j < 5 → PureV (fun g => g < w.heap.size ∧ ok g) w (av ((wks l).getD i []) j) (cv (f i).cells j)) →
      Calls Tryz.prog 62 #[.func (.func 64) #[] #[.pointer (some ⟨g, bo, none⟩)]] w fun e w' => ∃ v ss, e = .returned v ∧ ss.length = l.length ∧ w'.ownsRow w.heap.size 53 5 v ss.length (flat5 ss) ∧ RowKit.Below w.heap.size w w' ∧
      ∀ i j, i < l.length → j < 5 → PureV (fun g => g < w.heap.size ∧ ok g) w (av ((wks l).getD i []) j) (cv (ss.getD i default).cells j) := by
    intro a b off cap f ha hb hs hcells hpv
    rw [hs] at hc0
    have hseq : SeqB Fence.wide 1 Tryz.prog 64 #[.pointer (some ⟨g, bo, none⟩)] W5.enc (fun ys => ys = upto5 f l.length) l.length w := by
      by_cases hl0 : 0 < l.length
      · refine values_seq Fence.wide 1 trivial rfl (by omega) g bo b off l.length cap a ha f (by omega) w (hb hl0) hst.1 hc0 fun j hj => ?_
        have q := hcells j hj
        exact ⟨q 0 (by omega), q 1 (by omega), q 2 (by omega), q 3 (by omega), q 4 (by omega)⟩
      · refine values_seq Fence.wide 1 trivial rfl (by omega) g bo g off l.length cap a (fun h => absurd h hl0) f (by omega) w hst.1 hst.1 hc0 fun j hj => by omega
    refine (callsIn_wide.1 (collect_in Fence.wide 3 trivial trivial rfl (by omega) 64 _ trivial (enters_of Tryz.func64 (by kernel_rfl) rfl) _ l.length (by unfold maxLen; omega) (by omega) w hseq)).mono ?_
    rintro e w' ⟨v, ss, rfl, rfl, hrow, hnil, hb'⟩
    refine ⟨v, _, rfl, upto5_length _ _, hrow, hb', fun i j hi hj => ?_⟩
    have e : (upto5 f l.length).getD i default = f i := by simp [upto5, List.getD_eq_getElem?_getD, hi]
    rw [e]
    exact hpv i j hi hj
  generalize fb 0 = c at h3 main
  obtain ⟨es, he⟩ : ∃ es, wks l = es := ⟨_, rfl⟩
  rw [he] at h3
  cases h3 with
  | slE a cap hc =>
    have hl0 : l.length = 0 := by rw [← wks_len, he]; rfl
    exact main a 0 0 cap default (fun h => by omega) (fun h => by omega) (by rw [hl0]) (fun i hi => by omega) (fun i j hi => by omega)
  | slC _ g2 off cap sz f hc hm h0 hne hz hst2 hcell2 hr2 =>
    have hesl : es.length = l.length := by rw [← he, wks_len]
    have hsz : sz = 5 := by
      obtain ⟨x, hx⟩ := List.exists_mem_of_ne_nil _ hne
      exact (hz x hx).symm.trans (wks_one l x (he ▸ hx))
    subst hsz
    obtain ⟨F, hF⟩ := choose_upto (n := l.length) (p := fun i x => f i 0 = .string x.s ∧ f i 1 = .int .i64 x.h ∧ f i 2 = .int .i64 x.l ∧ f i 3 = .int .i64 x.w ∧ f i 4 = .slice x.p x.n x.k) fun i hi => by
      refine wk_read (q := l.getD i zeroWk) (st := fun g => g < w.heap.size ∧ ok g) (w := w) fun j hj => ?_
      have := hr2 i j (by omega) hj
      rwa [← he, wks_at l i hi] at this
    have hfF : ∀ i, i < l.length → ∀ j, j < 5 → cv (F i).cells j = f i j := by
      intro i hi j hj
      obtain ⟨q0, q1, q2, q3, q4⟩ := hF i hi
      match j, hj with
      | 0, _ => exact q0.symm
      | 1, _ => exact q1.symm
      | 2, _ => exact q2.symm
      | 3, _ => exact q3.symm
      | 4, _ => exact q4.symm
    refine main (some ⟨g2, off, none⟩) g2 off cap F (fun _ => rfl) (fun _ => hst2.1) (by rw [hesl]) (fun i hi j hj => ?_) (fun i j hi hj => ?_)
    · rw [hfF i hi j hj]; exact (hcell2 i j (by omega) hj).1
    · rw [hfF i hi j hj, he]; exact hr2 i j (by omega) hj
end Go.Proofs
namespace Go.Proofs
open Go Go.Ab
theorem strLess_iff (a b : ByteArray) : strLess a b = true ↔ a.toList < b.toList := by
  unfold strLess
  rw [bytesLess_eq]
  simp
theorem strLess_irrefl (a : ByteArray) : strLess a a = false := by
  rw [Bool.eq_false_iff]
  intro h
  rw [strLess_iff] at h
  exact List.lt_irrefl _ h
theorem strLess_trans {a b c : ByteArray} (h : strLess a b = true) (k : strLess b c = true) : strLess a c = true := by
  rw [strLess_iff] at *
  exact List.lt_trans h k
theorem strLess_tri (a b : ByteArray) (h : strLess a b = false) (k : strLess b a = false) : a.toList = b.toList := by
  rw [Bool.eq_false_iff] at h k
  rw [Ne, strLess_iff] at h k
  exact List.le_antisymm (List.not_lt.1 k) (List.not_lt.1 h)
end Go.Proofs
namespace Go.Ab
open Go.Shelf Go.RowKit Go.Lib Go.Proofs Go.Sort
theorem heap_sortP {w : World} {g n : Nat} {os : Array Obj} {cur : Array Value} {e : TypeId} {fr : Nat × Nat} (F : Array Value) (hb : w.heap[g]? = some (.cells cur e fr)) :
    (grow (putRow id (Sort.ahead w n) g 0 F) os).heap[g]? = some (.cells (putCells id 0 F cur) e fr) := by
  have hg : g < w.heap.size := (Array.getElem?_eq_some_iff.1 hb).1
  rw [heap_grow_old _ _ (by simpa using hg)]
  simp [putRow, mapBlock, Sort.ahead, Array.getElem?_modify, hb, onCells]
theorem grownBy_sortP {w : World} {g n : Nat} {os : Array Obj} (F : Array Value) : w.grownBy (grow (putRow id (Sort.ahead w n) g 0 F) os) (some g) := by
  refine ⟨rfl, rfl, rfl, by simp, fun k hk hne => ?_⟩
  rw [heap_grow_old _ _ (by simpa using hk)]
  have : g ≠ k := fun e => hne (by rw [e])
  simp [putRow, mapBlock, Sort.ahead, Array.getElem?_modify, this]
end Go.Ab
namespace Go.Ab
open Go.Shelf Go.RowKit Go.Lib Go.Proofs Go.Sort
section
variable {α : Type} [Inhabited α] (enc : α → List Value) (sz : Nat)
def rowsE (l : List α) : List (List AV) := l.map fun x => (enc x).map AV.v
omit [Inhabited α] in
theorem rowsE_len (l : List α) : (rowsE enc l).length = l.length := by simp [rowsE]
omit [Inhabited α] in
def pcE (l : List α) (j : Nat) : Value := cv (enc (l.getD (j / sz) default)) (j % sz)
def flatE (l : List α) : List Value := (List.range (l.length * sz)).map (pcE enc sz l)
theorem flatE_len (l : List α) : (flatE enc sz l).length = l.length * sz := by simp [flatE]
theorem flatE_get (l : List α) (j : Nat) (h : j < l.length * sz) : cv (flatE enc sz l) j = pcE enc sz l j := by
  simp [cv, flatE, List.getD_eq_getElem?_getD, h]
theorem divs {sz i j : Nat} (hj : j < sz) : (i * sz + j) / sz = i ∧ (i * sz + j) % sz = j := by
  have h0 : 0 < sz := by omega
  constructor
  · rw [Nat.add_comm, Nat.add_mul_div_right _ _ h0, Nat.div_eq_of_lt hj, Nat.zero_add]
  · rw [Nat.add_comm, Nat.add_mul_mod_self_right, Nat.mod_eq_of_lt hj]
theorem div_in {sz n j : Nat} (h0 : 0 < sz) (h : j < n * sz) : j / sz < n := (Nat.div_lt_iff_lt_mul h0).2 h
variable (hk : ∀ x, (enc x).length = sz) (h1 : ∀ x, ∀ v ∈ enc x, v.oneCell' = true) (h0 : 0 < sz)
include hk in
theorem rowsE_cell (l : List α) (i j : Nat) (hi : i < l.length) (hj : j < sz) : av ((rowsE enc l).getD i []) j = .v (pcE enc sz l (i * sz + j)) := by
  unfold pcE
  rw [(divs hj).1, (divs hj).2]
  have e3 : (rowsE enc l).getD i [] = (enc (l.getD i default)).map AV.v := by
    simp [rowsE, List.getD_eq_getElem?_getD, hi]
  have hl : j < (enc (l.getD i default)).length := by rw [hk]; exact hj
  rw [e3]
  generalize enc (l.getD i default) = E at *
  simp [av, cv, List.getD_eq_getElem?_getD, List.getElem?_eq_getElem hl]
include hk h0 in
theorem fits_rowsE {st : Nat → Prop} {w : World} {l : List α} {e : TypeId} {c : Value} {xs : List Value} (h : RowFits st w (rowsE enc l) sz e c xs) : xs = flatE enc sz l := by
  have hlen : xs.length = l.length * sz := by rw [h.row.len, rowsE_len]
  apply List.ext_getElem (by rw [flatE_len]; exact hlen)
  intro j h1 h2
  have hjm : j % sz < sz := Nat.mod_lt _ h0
  have hjd : j / sz < l.length := div_in h0 (by omega)
  have hjj : j / sz * sz + j % sz = j := by rw [Nat.mul_comm]; exact Nat.div_add_mod j sz
  have h3 := h.cell (j / sz) (j % sz) (by rw [rowsE_len]; exact hjd) hjm
  rw [rowsE_cell enc sz hk l (j / sz) (j % sz) hjd hjm, hjj] at h3
  have e1 : cv xs j = xs[j] := by simp [cv, List.getD_eq_getElem?_getD, List.getElem?_eq_getElem h1]
  have e2 : (flatE enc sz l)[j] = pcE enc sz l j := by simp [flatE]
  rw [e2, ← e1]
  generalize cv xs j = q at h3 ⊢
  cases h3
  rfl
include hk h1 h0 in
theorem pcE_one (l : List α) (j : Nat) : (pcE enc sz l j).oneCell' = true := by
  unfold pcE
  refine h1 (l.getD (j / sz) default) _ ?_
  have hl : j % sz < (enc (l.getD (j / sz) default)).length := by rw [hk]; exact Nat.mod_lt _ h0
  generalize enc (l.getD (j / sz) default) = E at *
  simp [cv, List.getD_eq_getElem?_getD, List.getElem?_eq_getElem hl]
include hk h1 h0 in
theorem rowsE_fits {st : Nat → Prop} {w : World} {l : List α} {e : TypeId} {c : Value} (h : RowRep w e sz c l.length (flatE enc sz l)) : RowFits st w (rowsE enc l) sz e c (flatE enc sz l) := by
  refine ⟨by intro y hy; obtain ⟨x, _, rfl⟩ := List.mem_map.1 hy; simp [hk], h0, by rw [rowsE_len]; exact h, fun x hx => ?_, fun i j hi hj => ?_⟩
  · obtain ⟨j, _, rfl⟩ := List.mem_map.1 hx
    exact pcE_one enc sz hk h1 h0 l j
  · rw [rowsE_len] at hi
    have hin : i * sz + j < l.length * sz := mul_in hi hj
    rw [rowsE_cell enc sz hk l i j hi hj, flatE_get enc sz l (i * sz + j) hin]
    exact .v _
def sortE (cf : α → α → Int) (l : List α) : List α := (pdq (ltOf cf) l.toArray 0 l.toArray.size (Lib.bitLen l.toArray.size) true true).toList
theorem sortE_spec (cf : α → α → Int) (hO : SWO (ltOf cf)) (l : List α) : (sortE cf l).Perm l ∧ (sortE cf l).Pairwise fun x y => ltOf cf y x = false := by
  have h := pdq_sorts (ltOf cf) hO l.toArray 0 l.toArray.size (Lib.bitLen l.toArray.size) true true (Nat.zero_le _) (Nat.le_refl _) (Or.inl rfl)
  obtain ⟨⟨h1, _, h2⟩, h3⟩ := h
  unfold sortE
  generalize pdq (ltOf cf) l.toArray 0 l.toArray.size (Lib.bitLen l.toArray.size) true true = d at *
  have e1 : (d.extract 0 l.toArray.size).toList = d.toList := by rw [← h1]; simp
  have e2 : (l.toArray.extract 0 l.toArray.size).toList = l := by simp
  rw [e1, e2] at h2
  refine ⟨h2, List.pairwise_iff_getElem.2 fun i j hi hj hij => ?_⟩
  have := h3 i j (Nat.zero_le _) hij (by rw [← h1]; simpa using hj)
  rw [getElem!_pos d j (by simpa using hj), getElem!_pos d i (by simpa using hi)] at this
  simpa using this
theorem sortE_len (cf : α → α → Int) (hO : SWO (ltOf cf)) (l : List α) : (sortE cf l).length = l.length := (sortE_spec cf hO l).1.length_eq
include hk h0 in
theorem flatK_getE (l : List α) (j : Nat) (h : j < l.length * sz) : (flatK enc sz l.toArray)[j]! = pcE enc sz l j := by
  rw [get_flatK enc sz l.toArray j (by simpa using h)]
  have hi : j / sz < l.length := div_in h0 h
  have e1 : l.toArray[j / sz]! = l.getD (j / sz) default := by
    rw [getElem!_pos l.toArray _ (by simpa using hi)]
    simp [List.getD_eq_getElem?_getD, hi]
  rw [e1]
  unfold pcE
  have hl : j % sz < (enc (l.getD (j / sz) default)).length := by rw [hk]; exact Nat.mod_lt _ h0
  generalize enc (l.getD (j / sz) default) = E at *
  rw [getElem!_pos E _ hl]
  simp [cv, List.getD_eq_getElem?_getD, List.getElem?_eq_getElem hl]
include hk h1 h0 in
theorem sortE_cc {P : Program} {ρ : Ren} (L : SlLaysF0.n6 P ρ) (aE : ∀ w, (isAgg (ρ.t 24)).run P w = .ok true w) (zE : ∀ w, (Go.sizeOf (ρ.t 24)).run P w = .ok sz w) (hcall : Callable P (ρ.f 6)) (cf : α → α → Int) (hO : SWO (ltOf cf)) (g : Nat)
    (eg : ∀ args w, (callFunc g args).run P w = .ok (.enter g args) w)
    (hcmp : ∀ blk off n w, CmpLays P g #[] enc sz cf blk off n w)
    (l t : List α) (b nm : Nat) (e : TypeId) (hl : l.length < 1000000) : CallC P (ρ.f 6) [.pre b l.length, .fn g []] [(b, .row (rowsE enc (l ++ t)) sz e)] nm (.tup []) [(b, some (.row (rowsE enc (sortE cf l ++ t)) sz e))] := by
  refine ⟨hcall, fun prov β w cs hn hb hi hv => ?_⟩
  have hlk : ∀ n, updL (listH [(b, Blk.row (rowsE enc (l ++ t)) sz e)]) [(b, some (Blk.row (rowsE enc (sortE cf l ++ t)) sz e))] n = if n = b then some (.row (rowsE enc (sortE cf l ++ t)) sz e) else none := by
    intro n; simp only [updL, upd, listH]; split <;> simp
  have hB := hb b (.row (rowsE enc (l ++ t)) sz e) (by simp [listH])
  obtain ⟨xs, hf⟩ := hB
  obtain rfl := fits_rowsE enc sz hk h0 hf
  obtain ⟨hlen, hv⟩ := hv
  match cs, hlen with
  | [c, c2], _ =>
  have g1 := hv 0 (by simp)
  have g2 := hv 1 (by simp)
  simp only [av_zero, cv, List.getD_cons_zero] at g1
  obtain ⟨ad, n, cap, cap', hβ, rfl, hkc, hm⟩ := g1.pre_inv
  obtain ⟨ys, hc2, hy, _⟩ := SimV.fn_inv (f := g) (cs := []) g2
  have hys : ys = [] := List.eq_nil_of_length_eq_zero (by simpa using hy.symm)
  subst hys
  have hc2 : c2 = .func (.func g) #[] #[] := hc2
  subst hc2
  have hsl := sortE_len cf hO l
  have tail : ∀ w', w.grownBy w' (blkOf (β b)) → RowRep w' e sz (β b) (sortE cf l ++ t).length (flatE enc sz (sortE cf l ++ t)) →
      ∃ c β', Ending.returned (Value.tuple #[]) = .returned c ∧ w'.os = w.os ∧ w'.tape = w.tape ∧ w'.output = w.output ∧ w.heap.size ≤ w'.heap.size ∧ Grows β β' ∧ (∀ n, n ≠ nm → β' n = β n) ∧
      (∀ g, g < w.heap.size → (∀ n b', listH [(b, Blk.row (rowsE enc (l ++ t)) sz e)] n = some b' → n ∈ [(b, some (Blk.row (rowsE enc (sortE cf l ++ t)) sz e))].map (·.1) → blkOf (β n) ≠ some g) → w'.heap[g]? = w.heap[g]?) ∧
      SimV (stb (fun g => prov g ∨ w.heap.size ≤ g) w' β' (updL (listH [(b, Blk.row (rowsE enc (l ++ t)) sz e)]) [(b, some (Blk.row (rowsE enc (sortE cf l ++ t)) sz e))])) β' w' (.tup []) c ∧
      (∀ n b', updL (listH [(b, Blk.row (rowsE enc (l ++ t)) sz e)]) [(b, some (Blk.row (rowsE enc (sortE cf l ++ t)) sz e))] n = some b' → n ∈ [(b, some (Blk.row (rowsE enc (sortE cf l ++ t)) sz e))].map (·.1) → BlkRep (stb (fun g => prov g ∨ w.heap.size ≤ g) w' β' (updL (listH [(b, Blk.row (rowsE enc (l ++ t)) sz e)]) [(b, some (Blk.row (rowsE enc (sortE cf l ++ t)) sz e))])) β' w' b' (β' n) ∧
        ∀ g, blkOf (β' n) = some g → w.heap.size ≤ g ∨ ∃ m b', listH [(b, Blk.row (rowsE enc (l ++ t)) sz e)] m = some b' ∧ m ∈ [(b, some (Blk.row (rowsE enc (sortE cf l ++ t)) sz e))].map (·.1) ∧ blkOf (β m) = some g) ∧
      Inj β' (updL (listH [(b, Blk.row (rowsE enc (l ++ t)) sz e)]) [(b, some (Blk.row (rowsE enc (sortE cf l ++ t)) sz e))]) := by
    intro w' hg hr
    refine ⟨_, β, rfl, hg.os, hg.tape, hg.output, hg.size, Grows.refl _, fun _ _ => rfl, fun g hgl hno => ?_, .pure (.tup [] [] rfl (fun j hj => by simp at hj)), fun n b' hb' _ => ?_, ?_⟩
    · exact hg.block g hgl (fun e' => hno b (.row (rowsE enc (l ++ t)) sz e) (by simp [listH]) (by simp) e'.symm)
    · rw [hlk] at hb'
      split at hb'
      · rename_i hnb; subst hnb
        simp at hb'; subst hb'
        exact ⟨⟨_, rowsE_fits enc sz hk h1 h0 hr⟩, fun g hgb => .inr ⟨n, .row (rowsE enc (l ++ t)) sz e, by simp [listH], by simp, hgb⟩⟩
      · cases hb'
    · intro n m b1 b2 g h1 h2 _ _
      rw [hlk] at h1 h2
      split at h1
      · split at h2
        · simp_all
        · cases h2
      · cases h1
  rw [hβ] at hf
  obtain ⟨hnl, hnc, hcm, hpos⟩ := row_cap hf
  rw [rowsE_len] at hnl
  by_cases hl0 : l = []
  · subst hl0
    have hs0 : sortE cf [] = [] := List.eq_nil_of_length_eq_zero hsl
    refine (AnyF.slices_SortFunc_none L ad cap' (.func (.func g) #[] #[]) w).mono fun e' w' ⟨he, hw⟩ => ?_
    subst he; subst hw
    refine tail w' ⟨rfl, rfl, rfl, Nat.le_refl _, fun _ _ _ => rfl⟩ ?_
    rw [hs0]
    have := hf.row
    rw [rowsE_len] at this
    rw [hβ]
    exact this
  · have hlp : 0 < l.length := List.length_pos_iff.2 hl0
    obtain ⟨gb, cur, rfl, hg, hcur, htk⟩ := hpos (by rw [hnl]; simp; omega)
    have hlt : gb < w.heap.size := (Array.getElem?_eq_some_iff.1 hg).1
    rw [rowsE_len] at htk
    have hla : (l ++ t).length = l.length + t.length := by simp
    have hcs : (l ++ t).length * sz ≤ cur.size := by rw [hcur]; exact Nat.mul_le_mul_right _ (by omega)
    have hcell : ∀ j, j < (l ++ t).length * sz → cur[j]? = some (pcE enc sz (l ++ t) j) := by
      intro j hj
      have h3 : (cur.toList.take ((l ++ t).length * sz))[j]? = (flatE enc sz (l ++ t))[j]? := by rw [htk]
      rw [List.getElem?_take_of_lt hj] at h3
      rw [← Array.getElem?_toList, h3]
      unfold flatE
      rw [List.getElem?_map, List.getElem?_range hj]
      rfl
    have pl : ∀ j, j < l.length * sz → pcE enc sz (l ++ t) j = pcE enc sz l j := by
      intro j hj
      unfold pcE
      have : (l ++ t).getD (j / sz) default = l.getD (j / sz) default := by
        simp only [List.getD_eq_getElem?_getD]
        rw [List.getElem?_append_left (div_in h0 hj)]
      rw [this]
    have pr : ∀ j, l.length * sz ≤ j → pcE enc sz (sortE cf l ++ t) j = pcE enc sz (l ++ t) j := by
      intro j hj
      unfold pcE
      have : (sortE cf l ++ t).getD (j / sz) default = (l ++ t).getD (j / sz) default := by
        simp only [List.getD_eq_getElem?_getD]
        have hd : l.length ≤ j / sz := (Nat.le_div_iff_mul_le h0).2 hj
        rw [List.getElem?_append_right (by omega), List.getElem?_append_right (by omega), hsl]
      rw [this]
    have pl2 : ∀ j, j < l.length * sz → pcE enc sz (sortE cf l ++ t) j = pcE enc sz (sortE cf l) j := by
      intro j hj
      unfold pcE
      have : (sortE cf l ++ t).getD (j / sz) default = (sortE cf l).getD (j / sz) default := by
        simp only [List.getD_eq_getElem?_getD]
        rw [List.getElem?_append_left (by rw [hsl]; exact div_in h0 hj)]
      rw [this]
    have hH : HoldsK enc sz w gb 0 l.toArray := by
      intro j hj
      rw [size_flatK] at hj
      have hj : j < l.length * sz := by simpa using hj
      refine ⟨?_, by simp [World.frozen?, hg]⟩
      rw [flatK_getE enc sz hk h0 l j hj]
      simp only [World.cell?, hg, Nat.zero_add, Option.isSome_none, Bool.false_eq_true, if_false, id]
      have hmul : l.length * sz ≤ (l ++ t).length * sz := Nat.mul_le_mul_right _ (by simp)
      rw [hcell j (by omega), pl j hj]
    have key := AnyQ.slices_SortFunc_eq L sz aE zE enc hk h1 cf hO g #[] gb 0 cap' l.toArray w eg (hcmp _ _ _ _) hH hlt (by simp; omega)
    have es : l.toArray.size = l.length := by simp
    rw [es] at key
    refine key.mono fun e' w' ⟨he, q, os, hw⟩ => ?_
    subst he
    have hsp : (pdq (ltOf cf) l.toArray 0 l.length (Lib.bitLen l.length) true true) = (sortE cf l).toArray := by unfold sortE; simp
    rw [hsp] at hw
    subst hw
    have hbk : blkOf (β b) = some gb := by rw [hβ]; simp [blkOf]; omega
    refine tail _ ?_ ?_
    · rw [hbk]; exact grownBy_sortP _
    · have hla2 : (sortE cf l ++ t).length = n := by simp [hsl]; omega
      rw [hβ, hla2]
      refine .inr ⟨gb, cap, rfl, by omega, by rw [flatE_len, hla2], .inr ⟨gb, cap, _, rfl, Nat.zero_le _, heap_sortP _ hg, hnc, hcm, by simp [putCells, hcur], ?_⟩⟩
      apply List.ext_getElem?
      intro j
      by_cases hj : j < n * sz
      · rw [List.getElem?_take_of_lt hj, Array.getElem?_toList]
        have e1 : (flatE enc sz (sortE cf l ++ t))[j]? = some (pcE enc sz (sortE cf l ++ t) j) := by
          unfold flatE
          rw [List.getElem?_map, List.getElem?_range (by rw [hla2]; exact hj)]
          rfl
        rw [e1]
        simp only [putCells, Array.getElem?_mapIdx, size_flatK, List.size_toArray, hsl, Nat.zero_le, Nat.zero_add, true_and, Nat.sub_zero, id]
        rw [hcell j (by rw [← hnl]; exact hj)]
        simp only [Option.map_some]
        by_cases h3 : j < l.length * sz
        · rw [if_pos h3, flatK_getE enc sz hk h0 _ j (by rw [hsl]; exact h3), pl2 j h3]
        · rw [if_neg h3, pr j (by omega)]
      · rw [List.getElem?_take_eq_none (by omega), List.getElem?_eq_none (by rw [flatE_len, hla2]; omega)]
end
end Go.Ab
namespace Go.Proofs
open Go.Shelf
def Tryz.sortWk_ren : Go.Shelf.Ren := ⟨fun | 6 => 63 | 15 => 84 | 14 => 83 | 28 => 100 | 29 => 101 | 20 => 92 | 21 => 93 | 22 => 94 | 23 => 95 | 24 => 96 | 25 => 97 | 26 => 98 | 27 => 99 | 46 => 115 | 47 => 116 | 48 => 117 | 49 => 118 | 50 => 119 | 57 => 127 | n => n, fun | 22 => 22 | 24 => 53 | 25 => 82 | 3 => 3 | 39 => 118 | 0 => 0 | 53 => 134 | 55 => 136 | 4 => 4 | 46 => 127 | 45 => 126 | 50 => 131 | 5 => 5 | 9 => 9 | 66 => 145 | 70 => 149 | 76 => 157 | 77 => 158 | n => n, fun | n => n⟩
theorem Tryz.sortWk : Go.Proofs.SlLaysF0.n6 Tryz.prog Tryz.sortWk_ren := {
  mixed := by kernel_rfl
  f6 := ⟨Tryz.f63.name, by decide, Tryz.func63.trans (congrArg some (by kernel_rfl))⟩
  f14 := ⟨Tryz.f83.name, by decide, Tryz.func83.trans (congrArg some (by kernel_rfl))⟩
  f15 := Tryz.func84.trans (congrArg some (by kernel_rfl))
  f20 := ⟨Tryz.f92.name, by decide, Tryz.func92.trans (congrArg some (by kernel_rfl))⟩
  f21 := ⟨Tryz.f93.name, by decide, Tryz.func93.trans (congrArg some (by kernel_rfl))⟩
  f22 := ⟨Tryz.f94.name, by decide, Tryz.func94.trans (congrArg some (by kernel_rfl))⟩
  f23 := ⟨Tryz.f95.name, by decide, Tryz.func95.trans (congrArg some (by kernel_rfl))⟩
  f24 := ⟨Tryz.f96.name, by decide, Tryz.func96.trans (congrArg some (by kernel_rfl))⟩
  f25 := ⟨Tryz.f97.name, by decide, Tryz.func97.trans (congrArg some (by kernel_rfl))⟩
  f26 := ⟨Tryz.f98.name, by decide, Tryz.func98.trans (congrArg some (by kernel_rfl))⟩
  f27 := ⟨Tryz.f99.name, by decide, Tryz.func99.trans (congrArg some (by kernel_rfl))⟩
  f28 := Tryz.func100.trans (congrArg some (by kernel_rfl))
  f29 := Tryz.func101.trans (congrArg some (by kernel_rfl))
  f46 := ⟨Tryz.f115.name, by decide, Tryz.func115.trans (congrArg some (by kernel_rfl))⟩
  f47 := Tryz.func116.trans (congrArg some (by kernel_rfl))
  f48 := Tryz.func117.trans (congrArg some (by kernel_rfl))
  f49 := ⟨Tryz.f118.name, by decide, Tryz.func118.trans (congrArg some (by kernel_rfl))⟩
  f50 := ⟨Tryz.f119.name, by decide, Tryz.func119.trans (congrArg some (by kernel_rfl))⟩
  f57 := ⟨Tryz.f127.name, by decide, Tryz.func127.trans (congrArg some (by kernel_rfl))⟩
  t0 := Tryz.underlying0
  a0 := Tryz.isAgg0
  z0 := Tryz.sizeOf0
  v0 := Tryz.zeroValue0
  t3 := Tryz.underlying3
  a3 := Tryz.isAgg3
  z3 := Tryz.sizeOf3
  v3 := Tryz.zeroValue3
  t4 := Tryz.underlying4
  a4 := Tryz.isAgg4
  z4 := Tryz.sizeOf4
  v4 := Tryz.zeroValue4
  t5 := Tryz.underlying5
  a5 := Tryz.isAgg5
  z5 := Tryz.sizeOf5
  v5 := Tryz.zeroValue5
  t9 := Tryz.underlying9
  a9 := Tryz.isAgg9
  z9 := Tryz.sizeOf9
  v9 := Tryz.zeroValue9
  t22 := Tryz.underlying22
  a22 := Tryz.isAgg22
  z22 := Tryz.sizeOf22
  v22 := Tryz.zeroValue22
  t25 := Tryz.underlying82
  a25 := Tryz.isAgg82
  z25 := Tryz.sizeOf82
  v25 := Tryz.zeroValue82
  t39 := Tryz.underlying118
  a39 := Tryz.isAgg118
  z39 := Tryz.sizeOf118
  v39 := Tryz.zeroValue118
  t45 := Tryz.underlying126
  a45 := Tryz.isAgg126
  z45 := Tryz.sizeOf126
  v45 := Tryz.zeroValue126
  t46 := Tryz.underlying127
  a46 := Tryz.isAgg127
  z46 := Tryz.sizeOf127
  v46 := Tryz.zeroValue127
  t50 := Tryz.underlying131
  a50 := Tryz.isAgg131
  z50 := Tryz.sizeOf131
  v50 := Tryz.zeroValue131
  t53 := Tryz.underlying134
  a53 := Tryz.isAgg134
  z53 := Tryz.sizeOf134
  v53 := Tryz.zeroValue134
  t55 := Tryz.underlying136
  a55 := Tryz.isAgg136
  z55 := Tryz.sizeOf136
  v55 := Tryz.zeroValue136
  t66 := Tryz.underlying145
  a66 := Tryz.isAgg145
  z66 := Tryz.sizeOf145
  v66 := Tryz.zeroValue145
  t70 := Tryz.underlying149
  a70 := Tryz.isAgg149
  z70 := Tryz.sizeOf149
  v70 := Tryz.zeroValue149
  t76 := Tryz.underlying157
  a76 := Tryz.isAgg157
  z76 := Tryz.sizeOf157
  v76 := Tryz.zeroValue157
  t77 := Tryz.underlying158
  a77 := Tryz.isAgg158
  z77 := Tryz.sizeOf158
  v77 := Tryz.zeroValue158 }
end Go.Proofs
namespace Go.Proofs
open Go Go.Ab Go.Shelf Go.RowKit Go.Lib Go.Sort
set_option maxRecDepth 100000
theorem nan65 (s : ByteArray) (w : World) : Calls Tryz.prog 65 #[.string s] w fun e w' => e = .returned (.bool false) ∧ w' = w := by
  go_enter Tryz.func65, Tryz.ntmps65
  go_wp2
  go_ret
  exact ⟨by simp, rfl⟩
def gtS (a b : ByteArray) : Bool := !(strLess a b || a.toList == b.toList)
def cmpT (a b : ByteArray) : Int := if strLess a b then -1 else if gtS a b then 1 else 0
theorem gtr41 (a b : ByteArray) (w : World) : (Go.binOp .gtr 9 (.string a) (.string b)).run Tryz.prog w = .ok (.bool !(Op.bytesLess a.toList b.toList || a.toList == b.toList)) w := by
  simp [Go.binOp, Op.stringOp, go_sem]
set_option maxHeartbeats 1000000 in
theorem cmp41 (a b : ByteArray) (w : World) : Calls Tryz.prog 41 #[.string a, .string b] w fun e w' => e = .returned (.int .i64 (cmpT a b)) ∧ w' = w := by
  cases h : Op.bytesLess a.toList b.toList
  · cases h2 : (a.toList == b.toList)
    · have hgt := gtr41 a b
      rw [h, h2] at hgt
      have e1 : cmpT a b = 1 := by unfold cmpT gtS strLess; rw [h, h2]; rfl
      rw [e1]
      clear e1
      go_enter Tryz.func41, Tryz.ntmps41
      go_wp2_with (go_at_call 65; refine (nan65 _ _).mono ?_; rintro e w' ⟨rfl, hw⟩; rw [hw])
      go_ret
      exact ⟨rfl, rfl⟩
    · have hgt := gtr41 a b
      rw [h, h2] at hgt
      have e1 : cmpT a b = 0 := by unfold cmpT gtS strLess; rw [h, h2]; rfl
      rw [e1]
      clear e1
      go_enter Tryz.func41, Tryz.ntmps41
      go_wp2_with (go_at_call 65; refine (nan65 _ _).mono ?_; rintro e w' ⟨rfl, hw⟩; rw [hw])
      go_ret
      exact ⟨rfl, rfl⟩
  · have e1 : cmpT a b = -1 := by unfold cmpT strLess; rw [h]; rfl
    rw [e1]
    clear e1
    go_enter Tryz.func41, Tryz.ntmps41
    go_wp2_with (go_at_call 65; refine (nan65 _ _).mono ?_; rintro e w' ⟨rfl, hw⟩; rw [hw])
    go_ret
    exact ⟨rfl, rfl⟩
set_option maxHeartbeats 8000000 in
theorem closure40 (x y : W5) (W : World) : Calls Tryz.prog 40 #[.agg #[.string x.s, .int .i64 x.h, .int .i64 x.l, .int .i64 x.w, .slice x.p x.n x.k], .agg #[.string y.s, .int .i64 y.h, .int .i64 y.l, .int .i64 y.w, .slice y.p y.n y.k]] W fun e w' => e = .returned (.int .i64 (cmpT x.s y.s)) ∧ ∃ q os', w' = grow (W.drewN q) os' := by
  have hcon := fun W' => cmp41 x.s y.s W'
  generalize cmpT x.s y.s = r at hcon ⊢
  go_enter Tryz.func40, Tryz.ntmps40
  go_wp2_with (go_at_call 41; refine (hcon _).mono ?_; rintro e w' ⟨rfl, rfl⟩)
  go_ret
  refine ⟨rfl, 0, #[Obj.cells #[.string x.s, .int .i64 x.h, .int .i64 x.l, .int .i64 x.w, .slice x.p x.n x.k] 53] ++ #[Obj.cells #[.string y.s, .int .i64 y.h, .int .i64 y.l, .int .i64 y.w, .slice y.p y.n y.k] 53], ?_⟩
  rw [alloc_eq_grow, alloc_eq_grow, grow_grow]; rfl
def cfW (x y : W5) : Int := cmpT x.s y.s
theorem ltW (x y : W5) : ltOf cfW x y = strLess x.s y.s := by
  unfold ltOf cfW cmpT gtS
  cases h : strLess x.s y.s
  · cases h2 : (x.s.toList == y.s.toList) <;> simp
  · simp
theorem strLess_ntrans {a b c : ByteArray} (h : strLess a b = false) (k : strLess b c = false) : strLess a c = false := by
  rw [Bool.eq_false_iff] at *
  rw [ne_eq, strLess_iff] at *
  intro hac
  have h1 := List.not_lt.1 h
  have h2 := List.not_lt.1 k
  exact List.not_lt.2 (List.le_trans h2 h1) hac
theorem swoW : SWO (ltOf cfW) where
  irrefl x := by rw [ltW]; exact strLess_irrefl _
  trans x y z h1 h2 := by rw [ltW] at *; exact strLess_trans h1 h2
  ntrans x y z h1 h2 := by rw [ltW] at *; exact strLess_ntrans h1 h2
theorem cmpLays40 (blk off n : Nat) (w : World) : CmpLays Tryz.prog 40 #[] W5.cells 5 cfW blk off n w :=
  fun _ _ _ _ x y => closure40 x y _
theorem w5_one (x : W5) : ∀ v ∈ x.cells, v.oneCell' = true := fun v hv => by
  simp [W5.cells] at hv
  rcases hv with rfl | rfl | rfl | rfl | rfl <;> rfl
theorem sort_world (ss : List W5) (v : Value) (w : World) (base : Nat) (ho : w.ownsRow base 53 5 v ss.length (flat5 ss)) (hl : ss.length < 1000000) :
    Calls Tryz.prog 63 #[v, .func (.func 40) #[] #[]] w fun e w' => e = .returned (.tuple #[]) ∧ w'.os = w.os ∧ w'.tape = w.tape ∧ w'.output = w.output ∧ w.heap.size ≤ w'.heap.size ∧
      (∀ g, g < w.heap.size → blkOf v ≠ some g → w'.heap[g]? = w.heap[g]?) ∧ ∃ xs, RowFits (fun _ => True) w' (rowsE W5.cells (sortE cfW ss)) 5 53 v xs := by
  obtain ⟨ad, cap, rfl, hcm⟩ : ∃ ad cap, v = .slice ad ss.length cap ∧ ss.length ≤ cap ∧ cap ≤ maxLen := by
    rcases ho.2 with ⟨h, h0⟩ | ⟨g, cap, cur, h, _, _, h1, h2, _⟩
    · exact ⟨none, 0, by rw [h, h0], by omega, by unfold maxLen; omega⟩
    · exact ⟨_, cap, h, h1, h2⟩
  have key := (sortE_cc W5.cells 5 (fun _ => rfl) w5_one (by decide) Tryz.sortWk (fun w => Tryz.isAgg53 w) (fun w => Tryz.sizeOf53 w) ⟨_, Tryz.func63, by kernel_rfl, by kernel_rfl⟩ cfW swoW 40 (enters_of Tryz.func40 (by kernel_rfl) rfl) cmpLays40 ss [] 0 1 53 hl).2
  rw [List.append_nil, List.append_nil] at key
  refine (key (fun _ => True) (fun n => if n = 0 then .slice ad ss.length cap else undef) w [.slice ad ss.length cap, .func (.func 40) #[] #[]] rfl ?_ ?_ ?_).mono ?_
  · intro n b hb
    simp only [listH] at hb
    split at hb
    · rename_i h0
      simp only [Option.some.injEq] at hb
      subst hb
      rw [if_pos h0]
      refine ⟨flat5 ss, fun x hx => by obtain ⟨y, _, rfl⟩ := List.mem_map.1 hx; rfl, by decide, by rw [rowsE_len]; exact RowRep.of_owns ho, fun u hu => ?_, fun i j hi hj => ?_⟩
      · simp only [flat5, List.mem_flatMap] at hu
        obtain ⟨x, _, hx⟩ := hu
        exact w5_one x u hx
      · rw [rowsE_len] at hi
        rw [flat5_at ss default i j hi hj, rowsE_cell W5.cells 5 (fun _ => rfl) ss i j hi hj]
        unfold pcE
        rw [(divs hj).1, (divs hj).2]
        exact .v _
    · cases hb
  · intro n m b b' g h1 h2 _ _
    simp only [listH] at h1 h2
    split at h1
    · split at h2
      · omega
      · cases h2
    · cases h1
  · refine ⟨rfl, fun j hj => ?_⟩
    match j, hj with
    | 0, _ => exact .pre 0 ss.length rfl hcm.1 hcm.2
    | 1, _ => exact .pure (.fn 40 [] [] rfl (fun j hj => by simp at hj))
  · rintro e w' ⟨c, β', rfl, h1, h2, h3, h4, hG, hn, hheap, hc, hrep, _⟩
    obtain ⟨xs, hcx, hxl, _⟩ := hc.tup_inv
    have : xs = [] := List.eq_nil_of_length_eq_zero (by simpa using hxl.symm)
    subst this
    refine ⟨by rw [hcx], h1, h2, h3, h4, fun g hg hno => hheap g hg fun n b hb _ => ?_, ?_⟩
    · simp only [listH] at hb
      split at hb
      · rename_i h0; rw [if_pos h0]; exact hno
      · cases hb
    · have := (hrep 0 (.row (rowsE W5.cells (sortE cfW ss)) 5 53) (by simp [updL, upd]) (by simp)).1
      have hβ : β' 0 = .slice ad ss.length cap := by rw [hn 0 (by decide)]; rfl
      rw [hβ] at this
      obtain ⟨xs, hf⟩ := this
      exact ⟨xs, hf.z, hf.pos, hf.row, hf.one, fun i j hi hj => (hf.cell i j hi hj).mono fun _ _ => ⟨trivial, rfl⟩⟩
def insW (q : Wk) : List Wk → List Wk
  | [] => [q]
  | x :: l => if strLess q.id x.id then q :: x :: l else x :: insW q l
def sortW (l : List Wk) : List Wk := l.foldr insW []
theorem insW_perm (q : Wk) : ∀ l, (insW q l).Perm (q :: l)
  | [] => List.Perm.refl _
  | x :: l => by
    unfold insW
    split
    · exact List.Perm.refl _
    · exact ((insW_perm q l).cons x).trans (List.Perm.swap q x l)
theorem sortW_perm : ∀ l : List Wk, (sortW l).Perm l
  | [] => List.Perm.refl _
  | q :: l => (insW_perm q (sortW l)).trans ((sortW_perm l).cons q)
theorem strLess_asymm {a b : ByteArray} (h : strLess a b = true) : strLess b a = false := by
  rw [Bool.eq_false_iff]
  intro k
  have := strLess_trans h k
  rw [strLess_irrefl] at this
  cases this
theorem insW_asc (q : Wk) : ∀ l : List Wk, l.Pairwise (fun x y => strLess y.id x.id = false) → (insW q l).Pairwise (fun x y => strLess y.id x.id = false)
  | [], _ => List.pairwise_singleton _ _
  | x :: l, h => by
    obtain ⟨h1, h2⟩ := List.pairwise_cons.1 h
    unfold insW
    split
    · rename_i hq
      refine List.pairwise_cons.2 ⟨fun y hy => ?_, h⟩
      rcases List.mem_cons.1 hy with rfl | hy
      · exact strLess_asymm hq
      · exact strLess_ntrans (h1 y hy) (strLess_asymm hq)
    · rename_i hq
      refine List.pairwise_cons.2 ⟨fun y hy => ?_, insW_asc q l h2⟩
      rcases List.mem_cons.1 ((insW_perm q l).mem_iff.1 hy) with rfl | hy
      · simpa using hq
      · exact h1 y hy
theorem sortW_asc : ∀ l : List Wk, (sortW l).Pairwise (fun x y => strLess y.id x.id = false)
  | [] => List.Pairwise.nil
  | q :: l => insW_asc q _ (sortW_asc l)
theorem sortW_len (l : List Wk) : (sortW l).length = l.length := (sortW_perm l).length_eq
theorem str_eq {a b : ByteArray} (h : a.toList = b.toList) : a = b := by
  rw [ByteArray.toList_eq, ByteArray.toList_eq] at h
  obtain ⟨x⟩ := a
  obtain ⟨y⟩ := b
  have : x = y := by simpa using h
  rw [this]
theorem str_unique {A B : List ByteArray} (h : A.Perm B) (ha : A.Pairwise (fun x y => strLess y x = false)) (hb : B.Pairwise (fun x y => strLess y x = false)) : A = B :=
  List.Perm.eq_of_pairwise (fun a b _ _ h1 h2 => str_eq (strLess_tri a b h2 h1)) ha hb h
theorem vinv {st : Nat → Prop} {w : World} {x c : Value} (h : PureV st w (.v x) c) : c = x := by cases h; rfl
theorem sorted_ok (l : List Wk) (hl : l.length < 1000000) (hnd : (l.map (·.id)).Nodup) : PureOwn Tryz.prog 38 [.fn 64 [.rp [.sl (wks l)]], .fn 40 []] (wks (sortW l)) 5 53 := by
  refine ⟨⟨_, Tryz.func38, by kernel_rfl, by kernel_rfl⟩, fun ok w cs ⟨hlen, hv⟩ => ?_⟩
  match cs, hlen with
  | [c, c2], _ =>
  have h1 := hv 0 (by simp)
  have h2 := hv 1 (by simp)
  simp only [av_zero, av_succ, cv, List.getD_cons_zero, List.getD_cons_succ] at h1 h2
  have hc2 : c2 = .func (.func 40) #[] #[] := by
    cases h2 with
    | fn _ _ xs hxl _ =>
      have : xs = [] := List.eq_nil_of_length_eq_zero (by simpa using hxl.symm)
      subst this; rfl
  subst hc2
  have hcol := collect_world l hl ok w c h1
  clear h1 h2 hv
  show Calls Tryz.prog 38 #[c, .func (.func 40) #[] #[]] w _
  go_enter Tryz.func38, Tryz.ntmps38
  go_wp2_with (first
    | (go_at_call 62; refine hcol.mono ?_; rintro e w1 ⟨v, ss, rfl, hsl, ho, hb, hp⟩)
    | (go_at_call 63; refine (sort_world ss v w1 _ ho (by omega)).mono ?_; rintro e w2 ⟨rfl, g1, g2, g3, g4, g5, xs, hf⟩))
  go_ret
  have hblk : ∀ g, blkOf v = some g → w.heap.size ≤ g := by
    intro g hg
    rcases ho.2 with ⟨h, _⟩ | ⟨g', cap, cur, h, hge, _⟩
    · rw [h] at hg; simp [blkOf] at hg
    · rw [h] at hg
      simp only [blkOf] at hg
      split at hg
      · cases hg
      · simp only [Option.some.injEq] at hg; omega
  have hx := fits_rowsE W5.cells 5 (fun _ => rfl) (by decide) hf
  subst hx
  have hold : ∀ g, g < w.heap.size → w2.heap[g]? = w.heap[g]? := fun g hg => (g5 g (Nat.lt_of_lt_of_le hg hb.size) (fun e => by have := hblk g e; omega)).trans (hb.block g hg)
  have hS := sortE_spec cfW swoW ss
  have hSl : (sortE cfW ss).length = l.length := by rw [hS.1.length_eq, hsl]
  have hss : ss.map (·.s) = l.map (·.id) := by
    apply List.ext_getElem (by simp [hsl])
    intro i a1 a2
    have hi : i < l.length := by simpa using a2
    have hi2 : i < ss.length := by omega
    have q := hp i 0 hi (by omega)
    rw [wks_at l i hi] at q
    simp only [av, Wk.cells, List.getD_cons_zero] at q
    have q2 := vinv q
    simp only [List.getD_eq_getElem?_getD, List.getElem?_eq_getElem hi, List.getElem?_eq_getElem hi2, Option.getD_some, cv, W5.cells, List.getElem?_cons_zero] at q2
    simpa using q2
  have hids : (sortE cfW ss).map (·.s) = (sortW l).map (·.id) := by
    refine str_unique ?_ ?_ ?_
    · exact ((hS.1.map _).trans (List.Perm.of_eq hss)).trans ((sortW_perm l).map _).symm
    · rw [List.pairwise_map]
      refine hS.2.imp fun {x y} h => ?_
      rw [ltW] at h
      exact h
    · rw [List.pairwise_map]
      exact sortW_asc l
  refine ⟨v, rfl, ⟨g1.trans hb.os, g2.trans hb.tape, g3.trans hb.output, Nat.le_trans hb.size g4, hold⟩, ?_, ⟨_, wks_one _, by decide, ?_, hf.one, fun i j hi hj => ?_⟩, hblk⟩
  · rcases ho.2 with ⟨h, _⟩ | ⟨g, cap, cur, h, _⟩
    · exact ⟨_, _, _, h⟩
    · exact ⟨_, _, _, h⟩
  · have := hf.row
    rwa [rowsE_len, hSl, ← sortW_len l, ← wks_len] at this
  · rw [wks_len] at hi
    have hil : i < l.length := by rw [sortW_len] at hi; exact hi
    have hiS : i < (sortE cfW ss).length := by omega
    have hcell : cv (flatE W5.cells 5 (sortE cfW ss)) (i * 5 + j) = cv ((sortE cfW ss).getD i default).cells j := by
      rw [flatE_get W5.cells 5 _ _ (mul_in hiS hj)]
      unfold pcE
      rw [(divs hj).1, (divs hj).2]
    rw [hcell]
    have hxm : (sortE cfW ss).getD i default ∈ ss := hS.1.mem_iff.1 (by rw [List.getD_eq_getElem?_getD, List.getElem?_eq_getElem hiS]; exact List.getElem_mem hiS)
    have hqm : (sortW l).getD i zeroWk ∈ l := (sortW_perm l).mem_iff.1 (by rw [List.getD_eq_getElem?_getD, List.getElem?_eq_getElem hi]; exact List.getElem_mem hi)
    have hid : ((sortE cfW ss).getD i default).s = ((sortW l).getD i zeroWk).id := by
      have := congrArg (fun L => L[i]?) hids
      simp only [List.getElem?_map, List.getElem?_eq_getElem hiS, List.getElem?_eq_getElem hi, Option.map_some, Option.some.injEq] at this
      simpa [List.getD_eq_getElem?_getD, hiS, hi] using this
    obtain ⟨k, hk, hkx⟩ := List.getElem_of_mem hxm
    obtain ⟨k2, hk2, hkq⟩ := List.getElem_of_mem hqm
    have hkk : k = k2 := by
      have e1 : (l.map (·.id))[k]? = some ((sortE cfW ss).getD i default).s := by
        rw [← hss, List.getElem?_map, List.getElem?_eq_getElem hk, hkx]; rfl
      have e2 : (l.map (·.id))[k2]? = some ((sortW l).getD i zeroWk).id := by
        rw [List.getElem?_map, List.getElem?_eq_getElem hk2, hkq]; rfl
      rw [hid] at e1
      exact (List.getElem?_inj (by simpa using (by omega : k < l.length)) hnd).1 (e1.trans e2.symm)
    subst hkk
    have q := hp k j hk2 hj
    rw [wks_at l k hk2] at q
    rw [wks_at _ i hi]
    have e3 : l.getD k zeroWk = (sortW l).getD i zeroWk := by rw [← hkq]; simp [List.getD_eq_getElem?_getD, hk2]
    have e4 : ss.getD k default = (sortE cfW ss).getD i default := by rw [← hkx]; simp [List.getD_eq_getElem?_getD, hk]
    rw [e3, e4] at q
    exact q.mono fun g hg => ⟨⟨Nat.lt_of_lt_of_le (Nat.lt_of_lt_of_le hg.1 hb.size) g4, .inl hg.2, fun e => by have := hblk g e; omega⟩, hold g hg.1⟩
end Go.Proofs
