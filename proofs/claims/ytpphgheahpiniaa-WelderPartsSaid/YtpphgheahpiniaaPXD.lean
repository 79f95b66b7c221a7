import Derived.Test.YtpphgheahpiniaaPXC
import Derived.Lib.SlicesCompact
import Derived.Shelf.SlSortCmp.NoneTotal
import Derived.Shelf.SlicesG.Cmp
import Derived.Shelf.SlicesE.Clone
import Derived.Shelf.Spec.SlicesGrow
import Derived.Ground.SlsfProg
import Derived.Ground.SlgcProg
import Derived.Ground.SlgnProg
import Derived.Ground.Names8Prog
import Derived.Test.YtpphgheahpiniaaProg
import Derived.StillTailTactics
import Derived.Sort.Walk0
section
set_option linter.unusedVariables false
set_option linter.unusedSimpArgs false
namespace Go.Proofs
open Go Go.Ab
set_option maxHeartbeats 4000000
set_option maxRecDepth 100000
set_option linter.unusedSimpArgs false
set_option linter.unusedVariables false
@[go_sem] theorem Try.co50 : Try.prog.cellsOf 50 = 3 := by kernel_rfl
@[go_sem] theorem Try.ag50 : isAggB Try.prog 50 = true := by kernel_rfl
@[go_sem] theorem Try.co47 : Try.prog.cellsOf 47 = 2 := by kernel_rfl
@[go_sem] theorem Try.ag47 : isAggB Try.prog 47 = true := by kernel_rfl
def idxF {α : Type} (p : α → Bool) (l : List α) : Int := if l.findIdx p < l.length then (l.findIdx p : Int) else -1
theorem idxF_in {α : Type} {p : α → Bool} {l : List α} {d : α} {i : Nat} (h : i < l.length) (hp : p (l.getD i d) = true) (hj : ∀ j, j < i → p (l.getD j d) = false) : idxF p l = i := by
  have e : l.findIdx p = i := by
    rw [List.findIdx_eq h]
    refine ⟨by simpa [List.getD_eq_getElem?_getD, h] using hp, fun j hji => ?_⟩
    have := hj j hji
    have hjl : j < l.length := by omega
    simpa [List.getD_eq_getElem?_getD, hjl] using this
  unfold idxF
  rw [e, if_pos h]
theorem idxF_out {α : Type} {p : α → Bool} {l : List α} {d : α} {i : Nat} (h : l.length ≤ i) (hj : ∀ j, j < i → p (l.getD j d) = false) : idxF p l = -1 := by
  have e : l.findIdx p = l.length := by
    rw [List.findIdx_eq_length]
    intro x hx
    obtain ⟨j, hjl, rfl⟩ := List.getElem_of_mem hx
    have := hj j (by omega)
    simpa [List.getD_eq_getElem?_getD, hjl] using this
  unfold idxF
  rw [e, if_neg (by omega)]
theorem idxF_any {α : Type} (p : α → Bool) (l : List α) : decide (0 ≤ idxF p l) = l.any p := by
  unfold idxF
  by_cases h : l.findIdx p < l.length
  · rw [if_pos h]
    have h2 := List.findIdx_getElem (w := h)
    have h3 : l.any p = true := List.any_eq_true.2 ⟨_, List.getElem_mem h, h2⟩
    rw [h3, decide_eq_true_eq]
    omega
  · rw [if_neg h]
    have h3 : l.any p = false := by
      rw [Bool.eq_false_iff]
      intro h4
      obtain ⟨x, hx, hpx⟩ := List.any_eq_true.1 h4
      exact h (List.findIdx_lt_length_of_exists ⟨x, hx, hpx⟩)
    rw [h3]; rfl
theorem any_end {α : Type} {p : α → Bool} {l : List α} {d : α} {i : Nat} (h : l.length ≤ i) (hj : ∀ j, j < i → p (l.getD j d) = false) : l.any p = false := by
  rw [Bool.eq_false_iff]
  intro h2
  obtain ⟨x, hx, hpx⟩ := List.any_eq_true.1 h2
  obtain ⟨j, hjl, rfl⟩ := List.getElem_of_mem hx
  have := hj j (by omega)
  rw [List.getD_eq_getElem?_getD, List.getElem?_eq_getElem hjl, Option.getD_some, hpx] at this
  cases this
theorem any_in {α : Type} {p : α → Bool} {l : List α} {d : α} {i : Nat} (h : i < l.length) (hp : p (l.getD i d) = true) : l.any p = true := by
  refine List.any_eq_true.2 ⟨l[i], List.getElem_mem h, ?_⟩
  simpa [List.getD_eq_getElem?_getD, h] using hp
theorem ints_snoc (l : List Int) (s : Int) : ints l ++ [[.v (.int .i64 s)]] = ints (l ++ [s]) := by simp [ints]
theorem ints_one1 (s : Int) : [[AV.v (.int .i64 s)]] = ints [s] := rfl
theorem take_snoc {α : Type} (l : List α) (d : α) (i : Nat) (h : i < l.length) : l.take (i + 1) = l.take i ++ [l.getD i d] := by
  rw [List.take_add_one, List.getElem?_eq_getElem h]
  simp [List.getD_eq_getElem?_getD, h]
end Go.Proofs
end
section
set_option linter.unusedVariables false
set_option linter.unusedSimpArgs false
namespace Go.Proofs
open Go Go.Ab
set_option maxHeartbeats 8000000
set_option maxRecDepth 100000
set_option linter.unusedSimpArgs false
set_option linter.unusedVariables false
attribute [local irreducible] Awp aops aopsL Go.Ab.Pure PureOwn
structure Sk where
  p : ByteArray
  a : Int
  b : Int
structure Wl where
  nm : ByteArray
  sk : List Sk
def Sk.cells (s : Sk) : List AV := [.v (.string s.p), .v (.int .i64 s.a), .v (.int .i64 s.b)]
def Sk.av (s : Sk) : AV := .agg s.cells
def sks (l : List Sk) : List (List AV) := l.map Sk.cells
def Wl.cells (q : Wl) : List AV := [.v (.string q.nm), .sl (sks q.sk)]
def Wl.av (q : Wl) : AV := .agg q.cells
def wls (l : List Wl) : List (List AV) := l.map Wl.cells
attribute [go_sem] Sk.cells Sk.av Wl.cells Wl.av
@[go_sem] theorem sks_len (l : List Sk) : (sks l).length = l.length := by simp [sks]
@[go_sem] theorem wls_len (l : List Wl) : (wls l).length = l.length := by simp [wls]
def zeroSk : Sk := ⟨⟨#[]⟩, 0, 0⟩
def zeroWl : Wl := ⟨⟨#[]⟩, []⟩
theorem sks_at (l : List Sk) (i : Nat) (h : i < l.length) : (sks l).getD i [] = (l.getD i zeroSk).cells := by
  simp [sks, List.getD_eq_getElem?_getD, h]
theorem wls_at (l : List Wl) (i : Nat) (h : i < l.length) : (wls l).getD i [] = (l.getD i zeroWl).cells := by
  simp [wls, List.getD_eq_getElem?_getD, h]
theorem sks_one (l : List Sk) : ∀ y ∈ sks l, y.length = 3 := by
  intro y hy; obtain ⟨x, _, rfl⟩ := List.mem_map.1 hy; rfl
theorem wls_one (l : List Wl) : ∀ y ∈ wls l, y.length = 2 := by
  intro y hy; obtain ⟨x, _, rfl⟩ := List.mem_map.1 hy; rfl
theorem sks_snoc (l : List Sk) (x : Sk) : sks l ++ [x.cells] = sks (l ++ [x]) := by simp [sks]
theorem wls_snoc (l : List Wl) (x : Wl) : wls l ++ [x.cells] = wls (l ++ [x]) := by simp [wls]
theorem sks_take (l : List Sk) (i : Nat) : (sks l).take i = sks (l.take i) := by simp [sks, List.map_take]
theorem sks_set (l : List Sk) (i : Nat) (x : Sk) : (sks l).set i x.cells = sks (l.set i x) := by simp [sks, List.map_set]
theorem wls_set (l : List Wl) (i : Nat) (x : Wl) : (wls l).set i x.cells = wls (l.set i x) := by simp [wls, List.map_set]
def firstE (f : Nat → Int) (n : Nat) : Int := match (List.range n).find? (fun i => f i != 0) with
  | some i => f i
  | none => 0
theorem firstE_bad {f : Nat → Int} {n i : Nat} (hi : i < n) (h : f i ≠ 0) (hj : ∀ j, j < i → f j = 0) : firstE f n = f i := by
  have e : (List.range n).find? (fun i => f i != 0) = some i := by
    rw [List.find?_eq_some_iff_getElem]
    refine ⟨by simpa using h, i, by simpa using hi, by simp, fun j hji => ?_⟩
    have := hj j hji
    simp [this]
  unfold firstE
  rw [e]
theorem firstE_end {f : Nat → Int} {n i : Nat} (hi : n ≤ i) (hj : ∀ j, j < i → f j = 0) : firstE f n = 0 := by
  have e : (List.range n).find? (fun i => f i != 0) = none := by
    rw [List.find?_eq_none]
    intro j hjn
    have := hj j (by have := List.mem_range.1 hjn; omega)
    simp [this]
  unfold firstE
  rw [e]
theorem firstE_zero (f : Nat → Int) (n : Nat) : firstE f n = 0 ↔ ∀ i, i < n → f i = 0 := by
  constructor
  · intro h i hi
    unfold firstE at h
    cases hf : (List.range n).find? (fun i => f i != 0) with
    | none =>
      rw [List.find?_eq_none] at hf
      have := hf i (List.mem_range.2 hi)
      simpa using this
    | some j =>
      rw [hf] at h
      have := List.find?_some hf
      simp only [bne_iff_ne, ne_eq] at this
      exact absurd h this
  · intro h
    exact firstE_end (Nat.le_refl n) fun j hj => h j hj

theorem pred_wrap {i : Nat} (h0 : 0 < i) (h : i < 1000000) : IntKind.i64.wrap ((i : Int) - 1) = ((i - 1 : Nat) : Int) := by
  rw [wrap_i64 (by omega) (by omega)]; omega
def ordS (q s : Sk) : Bool := strLess s.p q.p || ((s.p.toList == q.p.toList) && decide (s.a < q.b))
def ordAt (l : List Sk) (i : Nat) : Bool := decide (0 < i) && ordS (l.getD (i - 1) zeroSk) (l.getD i zeroSk)
def rngS (s : Sk) : Bool := decide (s.a < 0) || decide (s.b ≤ s.a) || decide (1048576 < s.b)
def skAt (l : List Sk) (i : Nat) : Int := if !nameB (l.getD i zeroSk).p then 6 else if rngS (l.getD i zeroSk) then 9 else if ordAt l i then 11 else 0
def skE (l : List Sk) : Int := firstE (skAt l) l.length
theorem skills_ok (l : List Sk) (hl : l.length < 100000) : Pure Try.prog 27 [.sl (sks l)] (.v (.int .i64 (skE l))) := by
  unfold skE
  refine fn_pure Try.F27 (Nat.le_of_ble_eq_true rfl) ?_; unfold Try.ac27
  repeat' (first
    | (apply Awp.sreg; (case hn => (simp only [List.length_cons, List.length_nil, Nat.reduceAdd] <;> rfl)))
    | (refine st_nil ?_)
    | (apply st_a; (case hc => rfl); (case he => (simp only [go_sem, *] <;> rfl)); (case hu => (simp only [updL_nil, updL_cons] <;> rfl)); (case hp => first | trivial))
    | refine Awp.block ?_
    | refine Awp.seq ?_)
  refine Awp.loop (fun i : Nat => i ≤ l.length ∧ ∀ j, j < i → skAt l j = 0) 40 (fun i => mkS [(0, .sl (sks l)), (5, .sl (sks l)), (6, .v (.int .i64 l.length)), (7, .v (.int .i64 i))] []) (fun i => l.length - i) 0 (by simp) ?_ ?_
  · (apply Ghost.mk [] []; (case hdead => rfl); (case hinj => rfl); (case hV => (simp only [go_sem, *]) <;> (repeat' (first | exact View.int (by first | rfl | omega | (simp; done) | (rw [wrap_i64] <;> (try simp only [Int.natCast_add]) <;> omega) | (simp [*]; done))))); (case hB => (simp only [go_sem, *]) <;> (repeat' (first | skip; done))))
  · intro i ⟨hi, hj⟩
    by_cases hlt : i < l.length
    · have hlt' : (i : Int) < l.length := by omega
      have hat := sks_at l i hlt
      have hz : ((l.getD i zeroSk).cells).length = 3 := rfl
      have c0 := name_ok (l.getD i zeroSk).p
      have hbad : ∀ {e : Int}, skAt l i = e → e ≠ 0 → firstE (skAt l) l.length = e := fun h he => by
        rw [← h, firstE_bad hlt (by rw [h]; exact he) hj]
      have hs : skAt l i = if !nameB (l.getD i zeroSk).p then 6 else if rngS (l.getD i zeroSk) then 9 else if ordAt l i then 11 else 0 := rfl
      have ho : ordAt l i = (decide (0 < i) && ordS (l.getD (i - 1) zeroSk) (l.getD i zeroSk)) := rfl
      cases h1 : nameB (l.getD i zeroSk).p
      · rw [h1] at hs c0
        have hf := hbad (e := 6) (by rw [hs]; rfl) (by decide)
        clear hbad hs ho hj
        repeat' (first
    | (apply Awp.sreg; (case hn => (simp only [List.length_cons, List.length_nil, Nat.reduceAdd] <;> rfl)))
    | (refine st_nil ?_)
    | (apply st_a; (case hc => rfl); (case he => (simp only [go_sem, *] <;> rfl)); (case hu => (simp only [updL_nil, updL_cons] <;> rfl)); (case hp => first | trivial | omega))
    | (apply st_c; (case hc => (simp only [go_sem, *] <;> rfl)); (case hl => (simp only [go_sem, *] <;> rfl)); (case hn => (simp only [go_sem, *] <;> rfl)); (case hp => first | exact c0 | (have hXz := c0; simp only [go_sem, *] at hXz; exact hXz)))
    | (refine Awp.ret ?_; try simp only [go_sem, *])
    | (refine Awp.skip ?_; try simp only [go_sem, *])
    | refine Awp.block ?_
    | (apply Awp.cond; (case hc => (simp only [go_sem, *] <;> rfl)); all_goals (intro hg; (try simp only [Bool.not_true, Bool.not_false, reduceCtorEq] at hg)))
    | refine Awp.seq ?_)
        all_goals repeat' (first | exact Lower.int (by first | rfl | (simp only [true_and, Bool.true_and, Bool.false_and, Bool.and_true, Bool.and_false, Bool.true_or, Bool.false_or, reduceIte, Bool.false_eq_true, *]; done) | (simp only [true_and, reduceIte, Bool.false_eq_true, *] <;> rfl) | (simp [true_and]; done) | (simp_all [true_and]; done) | omega))
      rw [h1] at hs c0
      cases h2 : rngS (l.getD i zeroSk)
      case true =>
        rw [h2] at hs
        have hf := hbad (e := 9) (by rw [hs]; rfl) (by decide)
        clear hbad hs ho hj
        unfold rngS at h2
        repeat' (first
    | (apply Awp.sreg; (case hn => (simp only [List.length_cons, List.length_nil, Nat.reduceAdd] <;> rfl)))
    | (refine st_nil ?_)
    | (apply st_a; (case hc => rfl); (case he => (simp only [go_sem, *] <;> rfl)); (case hu => (simp only [updL_nil, updL_cons] <;> rfl)); (case hp => first | trivial | omega))
    | (apply st_m; (case hc => rfl); (case hg => (simp only [go_sem, *] <;> rfl)); (case he => (intro hQz; (try simp only [wantB_t, wantB_f, Bool.and_eq_true, Bool.not_eq_true', Bool.not_true, Bool.not_false, and_true, true_and] at hQz); simp only [go_sem, *] <;> rfl)); (case hp => (intro hQz; (try simp only [wantB_t, wantB_f, Bool.and_eq_true, Bool.not_eq_true', Bool.or_eq_false_iff, decide_eq_true_eq, decide_eq_false_iff_not, beq_iff_eq, beq_eq_false_iff_ne, bne_iff_ne, bne_eq_false_iff_eq, Int.not_lt, Int.not_le, Int.ofNat_lt, Int.ofNat_le] at hQz); first | trivial)))
    | (apply st_c; (case hc => (simp only [go_sem, *] <;> rfl)); (case hl => (simp only [go_sem, *] <;> rfl)); (case hn => (simp only [go_sem, *] <;> rfl)); (case hp => first | exact c0 | (have hXz := c0; simp only [go_sem, *] at hXz; exact hXz)))
    | (refine Awp.ret ?_; try simp only [go_sem, *])
    | (refine Awp.skip ?_; try simp only [go_sem, *])
    | refine Awp.block ?_
    | (apply Awp.cond; (case hc => (simp only [go_sem, *] <;> rfl)); all_goals (intro hg; (try simp only [Bool.not_true, Bool.not_false, reduceCtorEq] at hg)))
    | refine Awp.seq ?_)
        all_goals repeat' (first | exact Lower.int (by first | rfl | (simp only [true_and, Bool.true_and, Bool.false_and, Bool.and_true, Bool.and_false, Bool.true_or, Bool.false_or, reduceIte, Bool.false_eq_true, *]; done) | (simp only [true_and, reduceIte, Bool.false_eq_true, *] <;> rfl) | (simp [true_and]; done) | (simp_all [true_and]; done) | omega))
      rw [h2] at hs
      unfold rngS at h2
      by_cases h0 : 0 < i
      · have hp : decide ((0 : Int) < (i : Int)) = true := decide_eq_true (by omega)
        have hw := pred_wrap h0 (by omega)
        have hatp := sks_at l (i - 1) (by omega)
        have hzp : ((l.getD (i - 1) zeroSk).cells).length = 3 := rfl
        have hlp : ((i - 1 : Nat) : Int) < l.length := by omega
        have hp0 : (0 : Int) ≤ ((i - 1 : Nat) : Int) := by omega
        rw [decide_eq_true h0, Bool.true_and] at ho
        cases h3 : ordS (l.getD (i - 1) zeroSk) (l.getD i zeroSk)
        · rw [ho, h3] at hs
          have hnx := ltSucc hj hs
          clear hbad hs ho hj
          unfold ordS at h3
          repeat' (first
    | (apply Awp.sreg; (case hn => (simp only [List.length_cons, List.length_nil, Nat.reduceAdd] <;> rfl)))
    | (apply Awp.sdraw; (case hn => (simp only [List.length_cons, List.length_nil, Nat.reduceAdd] <;> rfl)))
    | (refine st_nil ?_)
    | (apply st_a; (case hc => rfl); (case he => (simp only [go_sem, *] <;> rfl)); (case hu => (simp only [updL_nil, updL_cons] <;> rfl)); (case hp => first | trivial | omega))
    | (apply st_m; (case hc => rfl); (case hg => (simp only [go_sem, *] <;> rfl)); (case he => (intro hQz; (try simp only [wantB_t, wantB_f, Bool.and_eq_true, Bool.not_eq_true', Bool.not_true, Bool.not_false, and_true, true_and] at hQz); simp only [go_sem, *] <;> rfl)); (case hp => (intro hQz; (try simp only [wantB_t, wantB_f, Bool.and_eq_true, Bool.not_eq_true', Bool.or_eq_false_iff, decide_eq_true_eq, decide_eq_false_iff_not, beq_iff_eq, beq_eq_false_iff_ne, bne_iff_ne, bne_eq_false_iff_eq, Int.not_lt, Int.not_le, Int.ofNat_lt, Int.ofNat_le] at hQz); first | trivial)))
    | (apply st_c; (case hc => (simp only [go_sem, *] <;> rfl)); (case hl => (simp only [go_sem, *] <;> rfl)); (case hn => (simp only [go_sem, *] <;> rfl)); (case hp => first | exact c0 | (have hXz := c0; simp only [go_sem, *] at hXz; exact hXz)))
    | (apply Awp.reg; (case hn => (simp only [List.length_cons, List.length_nil, Nat.reduceAdd] <;> rfl)))
    | (refine Awp.ret ?_; try simp only [go_sem, *])
    | (refine Awp.skip ?_; try simp only [go_sem, *])
    | refine Awp.block ?_
    | (apply Awp.cond; (case hc => (simp only [go_sem, *] <;> rfl)); all_goals (intro hg; (try simp only [Bool.not_true, Bool.not_false, reduceCtorEq] at hg)))
    | refine Awp.seq ?_
    | (apply sl_a; (case hc => rfl); (case he => (simp only [go_sem, *] <;> rfl)); (case hu => (simp only [updL_nil, updL_cons] <;> rfl)); (case hl => (simp only [List.map_cons, List.map_nil] <;> rfl)); (case hp => first | trivial))
    | (apply sl_gu; (case hv => (simp only [go_sem, *] <;> rfl)))
    | (apply sl_gn; (case hv => (simp only [go_sem, *] <;> rfl)); (case hbw => rfl))
    | (apply sl_ga; (case hb => rfl); (case hv => (simp only [go_sem, *] <;> rfl)); (case he => (simp only [go_sem, *] <;> rfl)); (case hu => (simp only [updL_nil, updL_cons] <;> rfl)); (case hl => (simp only [List.map_cons, List.map_nil] <;> rfl)); (case hp => first | trivial))
    | (apply sl_case; (case hv => (simp only [go_sem, *] <;> rfl)); all_goals (intro hg; (try simp only [Bool.not_true, Bool.not_false, reduceCtorEq] at hg)))
    | (refine sl_nil (And.intro (by first | exact drawOk_of (by decide +kernel) | (simp only [List.map_cons, List.map_nil]; exact drawOk_of (by decide +kernel)) | decide) ?_)))
          all_goals (try (exfalso; simp only [Bool.or_true, Bool.true_or, Bool.or_false, Bool.false_or, Bool.and_true, Bool.true_and, Bool.and_false, Bool.false_and, reduceCtorEq, *] at h3; done))
          all_goals (refine ⟨i + 1, ⟨by omega, hnx⟩, by omega, ?_⟩; (apply Ghost.mk [] []; (case hdead => rfl); (case hinj => rfl); (case hV => (simp only [go_sem, *]) <;> (repeat' (first | exact View.int (by first | rfl | omega | (simp; done) | (rw [wrap_i64] <;> (try simp only [Int.natCast_add]) <;> omega) | (simp [*]; done))))); (case hB => (simp only [go_sem, *]) <;> (repeat' (first | skip; done)))))
        · rw [ho, h3] at hs
          have hf := hbad (e := 11) (by rw [hs]; rfl) (by decide)
          clear hbad hs ho hj
          unfold ordS at h3
          repeat' (first
    | (apply Awp.sreg; (case hn => (simp only [List.length_cons, List.length_nil, Nat.reduceAdd] <;> rfl)))
    | (apply Awp.sdraw; (case hn => (simp only [List.length_cons, List.length_nil, Nat.reduceAdd] <;> rfl)))
    | (refine st_nil ?_)
    | (apply st_a; (case hc => rfl); (case he => (simp only [go_sem, *] <;> rfl)); (case hu => (simp only [updL_nil, updL_cons] <;> rfl)); (case hp => first | trivial | omega))
    | (apply st_m; (case hc => rfl); (case hg => (simp only [go_sem, *] <;> rfl)); (case he => (intro hQz; (try simp only [wantB_t, wantB_f, Bool.and_eq_true, Bool.not_eq_true', Bool.not_true, Bool.not_false, and_true, true_and] at hQz); simp only [go_sem, *] <;> rfl)); (case hp => (intro hQz; (try simp only [wantB_t, wantB_f, Bool.and_eq_true, Bool.not_eq_true', Bool.or_eq_false_iff, decide_eq_true_eq, decide_eq_false_iff_not, beq_iff_eq, beq_eq_false_iff_ne, bne_iff_ne, bne_eq_false_iff_eq, Int.not_lt, Int.not_le, Int.ofNat_lt, Int.ofNat_le] at hQz); first | trivial)))
    | (apply st_c; (case hc => (simp only [go_sem, *] <;> rfl)); (case hl => (simp only [go_sem, *] <;> rfl)); (case hn => (simp only [go_sem, *] <;> rfl)); (case hp => first | exact c0 | (have hXz := c0; simp only [go_sem, *] at hXz; exact hXz)))
    | (apply Awp.reg; (case hn => (simp only [List.length_cons, List.length_nil, Nat.reduceAdd] <;> rfl)))
    | (refine Awp.ret ?_; try simp only [go_sem, *])
    | (refine Awp.skip ?_; try simp only [go_sem, *])
    | refine Awp.block ?_
    | (apply Awp.cond; (case hc => (simp only [go_sem, *] <;> rfl)); all_goals (intro hg; (try simp only [Bool.not_true, Bool.not_false, reduceCtorEq] at hg)))
    | refine Awp.seq ?_
    | (apply sl_a; (case hc => rfl); (case he => (simp only [go_sem, *] <;> rfl)); (case hu => (simp only [updL_nil, updL_cons] <;> rfl)); (case hl => (simp only [List.map_cons, List.map_nil] <;> rfl)); (case hp => first | trivial))
    | (apply sl_gu; (case hv => (simp only [go_sem, *] <;> rfl)))
    | (apply sl_gn; (case hv => (simp only [go_sem, *] <;> rfl)); (case hbw => rfl))
    | (apply sl_ga; (case hb => rfl); (case hv => (simp only [go_sem, *] <;> rfl)); (case he => (simp only [go_sem, *] <;> rfl)); (case hu => (simp only [updL_nil, updL_cons] <;> rfl)); (case hl => (simp only [List.map_cons, List.map_nil] <;> rfl)); (case hp => first | trivial))
    | (apply sl_case; (case hv => (simp only [go_sem, *] <;> rfl)); all_goals (intro hg; (try simp only [Bool.not_true, Bool.not_false, reduceCtorEq] at hg)))
    | (refine sl_nil (And.intro (by first | exact drawOk_of (by decide +kernel) | (simp only [List.map_cons, List.map_nil]; exact drawOk_of (by decide +kernel)) | decide) ?_)))
          all_goals (try (exfalso; simp only [Bool.or_true, Bool.true_or, Bool.or_false, Bool.false_or, Bool.and_true, Bool.true_and, Bool.and_false, Bool.false_and, reduceCtorEq, *] at h3; done))
          all_goals repeat' (first | exact Lower.int (by first | rfl | (simp only [true_and, Bool.true_and, Bool.false_and, Bool.and_true, Bool.and_false, Bool.true_or, Bool.false_or, reduceIte, Bool.false_eq_true, *]; done) | (simp only [true_and, reduceIte, Bool.false_eq_true, *] <;> rfl) | (simp [true_and]; done) | (simp_all [true_and]; done) | omega))
      · have hp : decide ((0 : Int) < (i : Int)) = false := decide_eq_false (by omega)
        rw [decide_eq_false h0, Bool.false_and] at ho
        rw [ho] at hs
        have hnx := ltSucc hj hs
        clear hbad hs ho hj
        repeat' (first
    | (apply Awp.sreg; (case hn => (simp only [List.length_cons, List.length_nil, Nat.reduceAdd] <;> rfl)))
    | (apply Awp.sdraw; (case hn => (simp only [List.length_cons, List.length_nil, Nat.reduceAdd] <;> rfl)))
    | (refine st_nil ?_)
    | (apply st_a; (case hc => rfl); (case he => (simp only [go_sem, *] <;> rfl)); (case hu => (simp only [updL_nil, updL_cons] <;> rfl)); (case hp => first | trivial | omega))
    | (apply st_m; (case hc => rfl); (case hg => (simp only [go_sem, *] <;> rfl)); (case he => (intro hQz; (try simp only [wantB_t, wantB_f, Bool.and_eq_true, Bool.not_eq_true', Bool.not_true, Bool.not_false, and_true, true_and] at hQz); simp only [go_sem, *] <;> rfl)); (case hp => (intro hQz; (try simp only [wantB_t, wantB_f, Bool.and_eq_true, Bool.not_eq_true', Bool.or_eq_false_iff, decide_eq_true_eq, decide_eq_false_iff_not, beq_iff_eq, beq_eq_false_iff_ne, bne_iff_ne, bne_eq_false_iff_eq, Int.not_lt, Int.not_le, Int.ofNat_lt, Int.ofNat_le] at hQz); first | trivial)))
    | (apply st_c; (case hc => (simp only [go_sem, *] <;> rfl)); (case hl => (simp only [go_sem, *] <;> rfl)); (case hn => (simp only [go_sem, *] <;> rfl)); (case hp => first | exact c0 | (have hXz := c0; simp only [go_sem, *] at hXz; exact hXz)))
    | (apply Awp.reg; (case hn => (simp only [List.length_cons, List.length_nil, Nat.reduceAdd] <;> rfl)))
    | (refine Awp.skip ?_; try simp only [go_sem, *])
    | refine Awp.block ?_
    | (apply Awp.cond; (case hc => (simp only [go_sem, *] <;> rfl)); all_goals (intro hg; (try simp only [Bool.not_true, Bool.not_false, reduceCtorEq] at hg)))
    | refine Awp.seq ?_
    | (apply sl_a; (case hc => rfl); (case he => (simp only [go_sem, *] <;> rfl)); (case hu => (simp only [updL_nil, updL_cons] <;> rfl)); (case hl => (simp only [List.map_cons, List.map_nil] <;> rfl)); (case hp => first | trivial))
    | (apply sl_gu; (case hv => (simp only [go_sem, *] <;> rfl)))
    | (apply sl_gn; (case hv => (simp only [go_sem, *] <;> rfl)); (case hbw => rfl))
    | (refine sl_nil (And.intro (by first | exact drawOk_of (by decide +kernel) | (simp only [List.map_cons, List.map_nil]; exact drawOk_of (by decide +kernel)) | decide) ?_)))
        all_goals (refine ⟨i + 1, ⟨by omega, hnx⟩, by omega, ?_⟩; (apply Ghost.mk [] []; (case hdead => rfl); (case hinj => rfl); (case hV => (simp only [go_sem, *]) <;> (repeat' (first | exact View.int (by first | rfl | omega | (simp; done) | (rw [wrap_i64] <;> (try simp only [Int.natCast_add]) <;> omega) | (simp [*]; done))))); (case hB => (simp only [go_sem, *]) <;> (repeat' (first | skip; done)))))
    · have hlt' : ¬ (i : Int) < l.length := by omega
      have hf := firstE_end (Nat.le_of_not_lt hlt) hj
      clear hj
      repeat' (first
    | (apply Awp.sreg; (case hn => (simp only [List.length_cons, List.length_nil, Nat.reduceAdd] <;> rfl)))
    | (refine st_nil ?_)
    | (apply st_a; (case hc => rfl); (case he => (simp only [go_sem, *] <;> rfl)); (case hu => (simp only [updL_nil, updL_cons] <;> rfl)); (case hp => first | trivial))
    | (refine Awp.ret ?_; try simp only [go_sem, *])
    | (refine Awp.exit ?_; try simp only [go_sem, *])
    | (apply Awp.cond; (case hc => (simp only [go_sem, *] <;> rfl)); all_goals (intro hg; (try simp only [Bool.not_true, Bool.not_false, reduceCtorEq] at hg)))
    | refine Awp.seq ?_)
      all_goals repeat' (first | exact Lower.int (by first | rfl | (simp only [true_and, Bool.true_and, Bool.false_and, Bool.and_true, Bool.and_false, Bool.true_or, Bool.false_or, reduceIte, Bool.false_eq_true, *]; done) | (simp only [true_and, reduceIte, Bool.false_eq_true, *] <;> rfl) | (simp [true_and]; done) | (simp_all [true_and]; done) | omega))
end Go.Proofs
end
section
set_option linter.unusedVariables false
set_option linter.unusedSimpArgs false
namespace Go.Ab
open Go

/-- Two strictly ascending lists with the same members are one. -/
theorem asc_ext : ∀ {l m : List Int}, l.Pairwise (· < ·) → m.Pairwise (· < ·) → (∀ x, x ∈ l ↔ x ∈ m) → l = m
  | [], [], _, _, _ => rfl
  | [], b :: m, _, _, h => by have := (h b).2 (List.mem_cons.2 (.inl rfl)); simp at this
  | a :: l, [], _, _, h => by have := (h a).1 (List.mem_cons.2 (.inl rfl)); simp at this
  | a :: l, b :: m, hl, hm, h => by
    rw [List.pairwise_cons] at hl hm
    have hab : a = b := by
      rcases List.mem_cons.1 ((h a).1 (List.mem_cons.2 (.inl rfl))) with e | e
      · exact e
      · rcases List.mem_cons.1 ((h b).2 (List.mem_cons.2 (.inl rfl))) with e' | e'
        · exact e'.symm
        · have := hl.1 b e'; have := hm.1 a e; omega
    subst hab
    congr 1
    refine asc_ext hl.2 hm.2 fun x => ⟨fun hx => ?_, fun hx => ?_⟩
    · rcases List.mem_cons.1 ((h x).1 (List.mem_cons.2 (.inr hx))) with e | e
      · have := hl.1 x hx; omega
      · exact e
    · rcases List.mem_cons.1 ((h x).2 (List.mem_cons.2 (.inr hx))) with e | e
      · have := hm.1 x hx; omega
      · exact e

theorem compact_asc (l : List Int) (hs : l.Pairwise (· ≤ ·)) : ∀ m, m ≤ l.length →
    (Lib.compactUpTo l.toArray m).Pairwise (· < ·) ∧ ∀ x, x ∈ Lib.compactUpTo l.toArray m ↔ ∃ j, j < m ∧ l.toArray[j]! = x := by
  have le : ∀ i j, i ≤ j → j < l.length → l.toArray[i]! ≤ l.toArray[j]! := by
    intro i j hij hj
    have hi : i < l.length := by omega
    have e1 : l.toArray[i]! = l[i] := by simp [getElem!_pos, hi]
    have e2 : l.toArray[j]! = l[j] := by simp [getElem!_pos, hj]
    rw [e1, e2]
    rcases Nat.lt_or_ge i j with h | h
    · exact List.pairwise_iff_getElem.1 hs i j hi hj h
    · obtain rfl : i = j := by omega
      exact Int.le_refl _
  intro m
  induction m with
  | zero => intro _; simp [Lib.compactUpTo]
  | succ m ih =>
    intro hm
    obtain ⟨h1, h2⟩ := ih (by omega)
    rw [Lib.compactUpTo_succ]
    by_cases hk : Lib.keeps l.toArray m = true
    · rw [if_pos hk]
      refine ⟨?_, fun x => ?_⟩
      · rw [List.pairwise_append]
        refine ⟨h1, by simp, fun x hx y hy => ?_⟩
        obtain rfl : y = l.toArray[m]! := by simpa using hy
        obtain ⟨j, hj, rfl⟩ := (h2 x).1 hx
        simp only [Lib.keeps, decide_eq_true_eq] at hk
        rcases hk with hk | hk
        · omega
        · have a1 := le j (m - 1) (by omega) (by omega)
          have a2 := le (m - 1) m (by omega) (by omega)
          omega
      · rw [List.mem_append, h2]
        constructor
        · rintro (⟨j, hj, e⟩ | h)
          · exact ⟨j, by omega, e⟩
          · exact ⟨m, by omega, by simpa using (List.mem_singleton.1 h).symm⟩
        · rintro ⟨j, hj, e⟩
          rcases Nat.lt_or_ge j m with h | h
          · exact .inl ⟨j, h, e⟩
          · obtain rfl : j = m := by omega
            exact .inr (by simp [← e])
    · rw [if_neg hk, List.append_nil]
      refine ⟨h1, fun x => ?_⟩
      rw [h2]
      constructor
      · rintro ⟨j, hj, e⟩; exact ⟨j, by omega, e⟩
      · rintro ⟨j, hj, e⟩
        rcases Nat.lt_or_ge j m with h | h
        · exact ⟨j, h, e⟩
        · obtain rfl : j = m := by omega
          simp only [Lib.keeps, decide_eq_true_eq, not_or, Decidable.not_not] at hk
          exact ⟨j - 1, by omega, by rw [← hk.2, e]⟩

theorem compact_sorted (l : List Int) (hs : l.Pairwise (· ≤ ·)) : (Lib.compact l).Pairwise (· < ·) ∧ ∀ x, x ∈ Lib.compact l ↔ x ∈ l := by
  obtain ⟨h1, h2⟩ := compact_asc l hs l.length (Nat.le_refl _)
  refine ⟨h1, fun x => ?_⟩
  unfold Lib.compact
  rw [h2]
  constructor
  · rintro ⟨j, hj, rfl⟩
    simp [getElem!_pos, hj]
  · intro hx
    obtain ⟨j, hj, e⟩ := List.getElem_of_mem hx
    exact ⟨j, hj, by simp [getElem!_pos, hj, e]⟩

def sortZ (l : List Int) : List Int := l.mergeSort fun x y => decide (x ≤ y)
theorem sortZ_asc (l : List Int) : (sortZ l).Pairwise (· ≤ ·) := by
  have := List.pairwise_mergeSort (le := fun x y : Int => decide (x ≤ y)) (by intro a b c; simp; omega) (by intro a b; simp; omega) l
  simpa [sortZ] using this
theorem mem_sortZ (l : List Int) (x : Int) : x ∈ sortZ l ↔ x ∈ l := (List.mergeSort_perm l _).mem_iff

/-- The least number of a list, from a first one on. -/
def leastZ (a : Int) (l : List Int) : Int := l.foldl min a
theorem leastZ_le (l : List Int) : ∀ a, leastZ a l ≤ a ∧ ∀ x ∈ l, leastZ a l ≤ x := by
  induction l with
  | nil => intro a; simp [leastZ]
  | cons b l ih =>
    intro a
    obtain ⟨h1, h2⟩ := ih (min a b)
    have e : leastZ a (b :: l) = leastZ (min a b) l := rfl
    rw [e]
    refine ⟨by omega, fun x hx => ?_⟩
    rcases List.mem_cons.1 hx with rfl | hx
    · omega
    · exact h2 x hx
theorem leastZ_mem (l : List Int) : ∀ a, leastZ a l = a ∨ leastZ a l ∈ l := by
  induction l with
  | nil => intro a; simp [leastZ]
  | cons b l ih =>
    intro a
    have e : leastZ a (b :: l) = leastZ (min a b) l := rfl
    rw [e]
    rcases ih (min a b) with h | h
    · rcases Int.le_total a b with hab | hab
      · left; omega
      · right; rw [h, show min a b = b by omega]; simp
    · right; simp [h]

/-- What is taken out, least first. -/
def takeZ : Nat → List Int → List Int
  | 0, _ => []
  | _ + 1, [] => []
  | k + 1, a :: l => leastZ a (a :: l) :: takeZ k ((a :: l).filter fun x => x != leastZ a (a :: l))

theorem takeZ_spec : ∀ k l, l.length ≤ k → (takeZ k l).Pairwise (· < ·) ∧ ∀ x, x ∈ takeZ k l ↔ x ∈ l := by
  intro k
  induction k with
  | zero => intro l h; obtain rfl : l = [] := List.length_eq_zero_iff.1 (by omega); simp [takeZ]
  | succ k ih =>
    intro l h
    match l with
    | [] => simp [takeZ]
    | a :: l =>
      have hm : leastZ a (a :: l) ∈ a :: l := by
        rcases leastZ_mem (a :: l) a with e | e
        · rw [e]; simp
        · exact e
      have hle := (leastZ_le (a :: l) a).2
      generalize hL : leastZ a (a :: l) = L at *
      have hlen : ((a :: l).filter fun x => x != L).length ≤ k := by
        have : ((a :: l).filter fun x => x != L).length < (a :: l).length := by
          rw [List.length_filter_lt_length_iff_exists]
          exact ⟨L, hm, by simp⟩
        omega
      obtain ⟨h1, h2⟩ := ih _ hlen
      have e : takeZ (k + 1) (a :: l) = L :: takeZ k ((a :: l).filter fun x => x != L) := by simp only [takeZ, hL]
      rw [e]
      refine ⟨List.pairwise_cons.2 ⟨fun x hx => ?_, h1⟩, fun x => ?_⟩
      · have hx := (h2 x).1 hx
        rw [List.mem_filter] at hx
        have := hle x hx.1
        have : x ≠ L := by simpa using hx.2
        omega
      · rw [List.mem_cons, h2, List.mem_filter]
        constructor
        · rintro (rfl | h)
          · exact hm
          · exact h.1
        · intro hx
          by_cases hxL : x = L
          · exact .inl hxL
          · exact .inr ⟨hx, by simpa using hxL⟩

theorem take_compact (l m : List Int) (h : ∀ x, x ∈ l ↔ x ∈ m) : takeZ l.length l = Lib.compact (sortZ m) := by
  obtain ⟨a1, a2⟩ := takeZ_spec l.length l (Nat.le_refl _)
  obtain ⟨b1, b2⟩ := compact_sorted (sortZ m) (sortZ_asc m)
  exact asc_ext a1 b1 fun x => by rw [a2, b2, mem_sortZ, h]
end Go.Ab
end
section
set_option linter.unusedVariables false
set_option linter.unusedSimpArgs false
namespace Go.Proofs
open Go Go.Ab
set_option linter.unusedSimpArgs false
set_option linter.unusedVariables false
structure Sp where
  a : Int
  b : Int
def zeroSp : Sp := ⟨0, 0⟩
def hasS (l : List Sp) (n : Int) : Prop := ∃ s ∈ l, s.a ≤ n ∧ n < s.b
def hasB (l : List Sp) (n : Int) : Bool := l.any fun s => decide (s.a ≤ n) && decide (n < s.b)
theorem hasB_iff (l : List Sp) (n : Int) : hasB l n = true ↔ hasS l n := by
  unfold hasB hasS
  simp only [List.any_eq_true, Bool.and_eq_true, decide_eq_true_eq]
theorem hasS_nil (n : Int) : ¬ hasS [] n := by unfold hasS; simp
theorem hasS_cons (s : Sp) (l : List Sp) (n : Int) : hasS (s :: l) n ↔ (s.a ≤ n ∧ n < s.b) ∨ hasS l n := by
  unfold hasS; simp
theorem hasS_append (l m : List Sp) (n : Int) : hasS (l ++ m) n ↔ hasS l n ∨ hasS m n := by
  unfold hasS
  constructor
  · rintro ⟨s, hs, h⟩
    rcases List.mem_append.1 hs with hs | hs
    · exact .inl ⟨s, hs, h⟩
    · exact .inr ⟨s, hs, h⟩
  · rintro (⟨s, hs, h⟩ | ⟨s, hs, h⟩)
    · exact ⟨s, List.mem_append.2 (.inl hs), h⟩
    · exact ⟨s, List.mem_append.2 (.inr hs), h⟩
theorem hasS_single (s : Sp) (n : Int) : hasS [s] n ↔ s.a ≤ n ∧ n < s.b := by
  rw [hasS_cons]
  exact ⟨fun h => h.resolve_right (hasS_nil n), .inl⟩
theorem hasS_congr {l m : List Sp} (h : ∀ s, s ∈ l ↔ s ∈ m) (n : Int) : hasS l n ↔ hasS m n :=
  ⟨fun ⟨s, hs, k⟩ => ⟨s, (h s).1 hs, k⟩, fun ⟨s, hs, k⟩ => ⟨s, (h s).2 hs, k⟩⟩
def Canon (l : List Sp) : Prop := l.Pairwise (fun s t => s.b < t.a) ∧ ∀ s ∈ l, s.a < s.b
theorem canon_nil : Canon [] := ⟨List.Pairwise.nil, by simp⟩
theorem Canon.tail {s : Sp} {l : List Sp} (h : Canon (s :: l)) : Canon l := ⟨(List.pairwise_cons.1 h.1).2, fun t ht => h.2 t (by simp [ht])⟩
theorem canon_ext : ∀ {l m : List Sp}, Canon l → Canon m → (∀ n, hasS l n ↔ hasS m n) → l = m
  | [], [], _, _, _ => rfl
  | [], t :: m, _, hm, h => absurd ((h t.a).2 ⟨t, by simp, Int.le_refl _, hm.2 t (by simp)⟩) (hasS_nil _)
  | s :: l, [], hl, _, h => absurd ((h s.a).1 ⟨s, by simp, Int.le_refl _, hl.2 s (by simp)⟩) (hasS_nil _)
  | s :: l, t :: m, hl, hm, h => by
    have low : ∀ {s : Sp} {l : List Sp} {n : Int}, Canon (s :: l) → hasS (s :: l) n → s.a ≤ n := by
      intro s l n hc hn
      obtain ⟨u, hu, h1, h2⟩ := hn
      rcases List.mem_cons.1 hu with rfl | hu
      · exact h1
      · have := (List.pairwise_cons.1 hc.1).1 u hu
        have := hc.2 s (by simp)
        omega
    have up : ∀ {s : Sp} {l : List Sp}, Canon (s :: l) → ¬ hasS (s :: l) s.b := by
      intro s l hc hn
      obtain ⟨u, hu, h1, h2⟩ := hn
      rcases List.mem_cons.1 hu with rfl | hu
      · omega
      · have := (List.pairwise_cons.1 hc.1).1 u hu
        omega
    have hs := hl.2 s (by simp)
    have ht := hm.2 t (by simp)
    have e1 : s.a = t.a := by
      have h1 := low hl ((h t.a).2 ⟨t, by simp, Int.le_refl _, ht⟩)
      have h2 := low hm ((h s.a).1 ⟨s, by simp, Int.le_refl _, hs⟩)
      omega
    have e2 : s.b = t.b := by
      rcases Int.lt_trichotomy s.b t.b with hlt | he | hlt
      · exact absurd ((h s.b).2 ⟨t, by simp, by omega, hlt⟩) (up hl)
      · exact he
      · exact absurd ((h t.b).1 ⟨s, by simp, by omega, hlt⟩) (up hm)
    have e : s = t := by cases s; cases t; simp only at e1 e2; rw [e1, e2]
    subst e
    congr 1
    refine canon_ext hl.tail hm.tail fun n => ?_
    have out : ∀ {l : List Sp}, Canon (s :: l) → hasS l n → ¬ (s.a ≤ n ∧ n < s.b) := by
      intro l hc ⟨u, hu, h1, h2⟩ hh
      have := (List.pairwise_cons.1 hc.1).1 u hu
      omega
    have := h n
    rw [hasS_cons, hasS_cons] at this
    exact ⟨fun hh => (this.1 (.inr hh)).resolve_left (out hl hh), fun hh => (this.2 (.inr hh)).resolve_left (out hm hh)⟩
/-- Joining: one more span behind those before. -/
def stepM (out : List Sp) (s : Sp) : List Sp :=
  if 0 < out.length ∧ s.a ≤ (out.getD (out.length - 1) zeroSp).b then out.set (out.length - 1) ⟨(out.getD (out.length - 1) zeroSp).a, max (out.getD (out.length - 1) zeroSp).b s.b⟩ else out ++ [s]
def mergeS (l : List Sp) : List Sp := l.foldl stepM []
theorem stepM_snoc (o : List Sp) (t s : Sp) : stepM (o ++ [t]) s = if s.a ≤ t.b then o ++ [⟨t.a, max t.b s.b⟩] else o ++ [t] ++ [s] := by
  have e : (o ++ [t]).getD ((o ++ [t]).length - 1) zeroSp = t := by
    simp [List.getD_eq_getElem?_getD]
  unfold stepM
  rw [e]
  by_cases h : s.a ≤ t.b
  · rw [if_pos ⟨by simp, h⟩, if_pos h]
    simp [List.set_append]
  · rw [if_neg (fun hh => h hh.2), if_neg h]
theorem stepM_nil (s : Sp) : stepM [] s = [s] := rfl
theorem stepM_len (o : List Sp) (s : Sp) : (stepM o s).length ≤ o.length + 1 := by
  unfold stepM
  split <;> simp
theorem foldM_len : ∀ (l o : List Sp), (l.foldl stepM o).length ≤ o.length + l.length
  | [], o => by simp
  | s :: l, o => by
    have h1 := foldM_len l (stepM o s)
    have h2 := stepM_len o s
    simp only [List.foldl_cons, List.length_cons]
    omega
theorem canon_snoc {o : List Sp} {t : Sp} : Canon (o ++ [t]) ↔ Canon o ∧ (∀ s ∈ o, s.b < t.a) ∧ t.a < t.b := by
  unfold Canon
  rw [List.pairwise_append]
  constructor
  · rintro ⟨⟨h1, _, h3⟩, h4⟩
    exact ⟨⟨h1, fun s hs => h4 s (by simp [hs])⟩, fun s hs => h3 s hs t (by simp), h4 t (by simp)⟩
  · rintro ⟨⟨h1, h2⟩, h3, h4⟩
    refine ⟨⟨h1, by simp, fun s hs u hu => by rw [List.mem_singleton.1 hu]; exact h3 s hs⟩, fun s hs => ?_⟩
    rcases List.mem_append.1 hs with hs | hs
    · exact h2 s hs
    · rw [List.mem_singleton.1 hs]; exact h4
theorem merge_go : ∀ (r o : List Sp) (t : Sp), Canon (o ++ [t]) → r.Pairwise (fun x y => x.a ≤ y.a) → (∀ s ∈ r, t.a ≤ s.a ∧ s.a < s.b) →
    Canon (r.foldl stepM (o ++ [t])) ∧ ∀ n, hasS (r.foldl stepM (o ++ [t])) n ↔ hasS (o ++ [t]) n ∨ hasS r n
  | [], o, t, hc, _, _ => ⟨hc, fun n => by simp [hasS_nil]⟩
  | s :: r, o, t, hc, hp, hr => by
    have h1 := hr s (by simp)
    have h2 := List.pairwise_cons.1 hp
    have hc' := canon_snoc.1 hc
    rw [List.foldl_cons, stepM_snoc]
    by_cases h : s.a ≤ t.b
    · rw [if_pos h]
      have k := merge_go r o ⟨t.a, max t.b s.b⟩ (canon_snoc.2 ⟨hc'.1, hc'.2.1, by show t.a < max t.b s.b; omega⟩) h2.2 (fun u hu => ⟨by have := h2.1 u hu; show t.a ≤ u.a; omega, (hr u (by simp [hu])).2⟩)
      refine ⟨k.1, fun n => ?_⟩
      rw [k.2 n, hasS_append, hasS_append, hasS_single, hasS_single, hasS_cons]
      show ((hasS o n ∨ (t.a ≤ n ∧ n < max t.b s.b)) ∨ hasS r n) ↔ _
      have : (t.a ≤ n ∧ n < max t.b s.b) ↔ (t.a ≤ n ∧ n < t.b) ∨ (s.a ≤ n ∧ n < s.b) := by omega
      rw [this]
      constructor
      · rintro ((h | (h | h)) | h)
        · exact .inl (.inl h)
        · exact .inl (.inr h)
        · exact .inr (.inl h)
        · exact .inr (.inr h)
      · rintro ((h | h) | (h | h))
        · exact .inl (.inl h)
        · exact .inl (.inr (.inl h))
        · exact .inl (.inr (.inr h))
        · exact .inr h
    · rw [if_neg h]
      have k := merge_go r (o ++ [t]) s (canon_snoc.2 ⟨hc, fun u hu => by
        rcases List.mem_append.1 hu with hu | hu
        · have := hc'.2.1 u hu; have := hc'.2.2; omega
        · rw [List.mem_singleton.1 hu]; omega, h1.2⟩) h2.2 (fun u hu => ⟨h2.1 u hu, (hr u (by simp [hu])).2⟩)
      refine ⟨k.1, fun n => ?_⟩
      rw [k.2 n, hasS_append (o ++ [t]) [s], hasS_single, hasS_cons]
      rw [or_assoc]
theorem merge_spec {l : List Sp} (hp : l.Pairwise (fun x y => x.a ≤ y.a)) (hr : ∀ s ∈ l, s.a < s.b) : Canon (mergeS l) ∧ ∀ n, hasS (mergeS l) n ↔ hasS l n := by
  cases l with
  | nil => exact ⟨canon_nil, fun n => Iff.rfl⟩
  | cons s l =>
    have h2 := List.pairwise_cons.1 hp
    have k := merge_go l [] s (canon_snoc.2 ⟨canon_nil, by simp, hr s (by simp)⟩) h2.2 (fun u hu => ⟨h2.1 u hu, hr u (by simp [hu])⟩)
    unfold mergeS
    rw [List.foldl_cons, stepM_nil]
    rw [List.nil_append] at k
    refine ⟨k.1, fun n => ?_⟩
    rw [k.2 n, hasS_single, hasS_cons]
/-- The canonical form: sorted, joined. -/
def fullB (s : Sp) : Bool := decide (s.a < s.b)
def insS (s : Sp) : List Sp → List Sp
  | [] => [s]
  | t :: l => if t.a < s.a then t :: insS s l else s :: t :: l
def sortSp : List Sp → List Sp
  | [] => []
  | s :: l => insS s (sortSp l)
theorem mem_insS (s : Sp) : ∀ (l : List Sp) (x : Sp), x ∈ insS s l ↔ x = s ∨ x ∈ l
  | [], x => by simp [insS]
  | t :: l, x => by
    unfold insS
    split
    · rw [List.mem_cons, mem_insS s l x, List.mem_cons]
      constructor
      · rintro (h | h | h)
        · exact .inr (.inl h)
        · exact .inl h
        · exact .inr (.inr h)
      · rintro (h | h | h)
        · exact .inr (.inl h)
        · exact .inl h
        · exact .inr (.inr h)
    · simp [List.mem_cons]
theorem insS_asc (s : Sp) : ∀ (l : List Sp), l.Pairwise (fun x y => x.a ≤ y.a) → (insS s l).Pairwise (fun x y => x.a ≤ y.a)
  | [], _ => by simp [insS]
  | t :: l, h => by
    have h' := List.pairwise_cons.1 h
    unfold insS
    split
    · rw [List.pairwise_cons]
      refine ⟨fun u hu => ?_, insS_asc s l h'.2⟩
      rcases (mem_insS s l u).1 hu with rfl | hu
      · omega
      · exact h'.1 u hu
    · rw [List.pairwise_cons]
      refine ⟨fun u hu => ?_, h⟩
      rcases List.mem_cons.1 hu with rfl | hu
      · omega
      · have := h'.1 u hu; omega
theorem sortSp_spec : ∀ l : List Sp, (sortSp l).Pairwise (fun x y => x.a ≤ y.a) ∧ ∀ x, x ∈ sortSp l ↔ x ∈ l
  | [] => ⟨List.Pairwise.nil, fun x => Iff.rfl⟩
  | s :: l => by
    have h := sortSp_spec l
    refine ⟨insS_asc s _ h.1, fun x => ?_⟩
    show x ∈ insS s (sortSp l) ↔ _
    rw [mem_insS, h.2 x, List.mem_cons]
def canon (l : List Sp) : List Sp := mergeS (sortSp (l.filter fullB))
theorem filter_has (l : List Sp) (n : Int) : hasS (l.filter fullB) n ↔ hasS l n := by
  unfold hasS fullB
  constructor
  · rintro ⟨s, hs, h⟩
    exact ⟨s, (List.mem_filter.1 hs).1, h⟩
  · rintro ⟨s, hs, h1, h2⟩
    exact ⟨s, List.mem_filter.2 ⟨hs, by simp; omega⟩, h1, h2⟩
theorem canon_is (l : List Sp) : Canon (canon l) ∧ ∀ n, hasS (canon l) n ↔ hasS l n := by
  have h := sortSp_spec (l.filter fullB)
  have k := merge_spec h.1 (fun s hs => by
    have := (List.mem_filter.1 ((h.2 s).1 hs)).2
    simpa [fullB] using this)
  refine ⟨k.1, fun n => ?_⟩
  rw [show canon l = mergeS (sortSp (l.filter fullB)) from rfl, k.2 n, hasS_congr h.2, filter_has]
/-- Whatever sorts and joins gives the canonical form. -/
theorem merge_canon {l m : List Sp} (hp : m.Pairwise (fun x y => x.a ≤ y.a)) (hm : ∀ s, s ∈ m ↔ s ∈ l.filter fullB) : mergeS m = canon l := by
  have k := merge_spec hp (fun s hs => by
    have := (List.mem_filter.1 ((hm s).1 hs)).2
    simpa [fullB] using this)
  refine canon_ext k.1 (canon_is l).1 fun n => ?_
  rw [k.2 n, (canon_is l).2 n, hasS_congr hm, filter_has]
theorem canon_eq {l m : List Sp} (hl : Canon l) (h : ∀ n, hasS l n ↔ hasS m n) : l = canon m :=
  canon_ext hl (canon_is m).1 fun n => (h n).trans ((canon_is m).2 n).symm
theorem canon_same {l m : List Sp} (h : ∀ n, hasS l n ↔ hasS m n) : canon l = canon m :=
  canon_ext (canon_is l).1 (canon_is m).1 fun n => ((canon_is l).2 n).trans ((h n).trans ((canon_is m).2 n).symm)
theorem canon_idem (l : List Sp) : canon (canon l) = canon l := canon_same fun n => (canon_is l).2 n
/-- Taking together, taking what is in both, taking away. -/
def interL (l m : List Sp) : List Sp := l.flatMap fun s => m.map fun t => ⟨max s.a t.a, min s.b t.b⟩
theorem inter_has (l m : List Sp) (n : Int) : hasS (interL l m) n ↔ hasS l n ∧ hasS m n := by
  unfold interL hasS
  constructor
  · rintro ⟨u, hu, h1, h2⟩
    obtain ⟨s, hs, hu⟩ := List.mem_flatMap.1 hu
    obtain ⟨t, ht, rfl⟩ := List.mem_map.1 hu
    simp only at h1 h2
    exact ⟨⟨s, hs, by omega⟩, ⟨t, ht, by omega⟩⟩
  · rintro ⟨⟨s, hs, h⟩, ⟨t, ht, k⟩⟩
    exact ⟨⟨max s.a t.a, min s.b t.b⟩, List.mem_flatMap.2 ⟨s, hs, List.mem_map.2 ⟨t, ht, rfl⟩⟩, by show max s.a t.a ≤ n ∧ n < min s.b t.b; omega⟩
def cutL (l : List Sp) (t : Sp) : List Sp := l.flatMap fun s => [⟨s.a, min s.b t.a⟩, ⟨max s.a t.b, s.b⟩]
theorem cut_has (l : List Sp) (t : Sp) (ht : t.a < t.b) (n : Int) : hasS (cutL l t) n ↔ hasS l n ∧ ¬ (t.a ≤ n ∧ n < t.b) := by
  unfold cutL hasS
  constructor
  · rintro ⟨u, hu, h1, h2⟩
    obtain ⟨s, hs, hu⟩ := List.mem_flatMap.1 hu
    rcases List.mem_cons.1 hu with rfl | hu
    · simp only at h1 h2
      exact ⟨⟨s, hs, by omega⟩, by omega⟩
    · rw [List.mem_singleton.1 hu] at h1 h2
      simp only at h1 h2
      exact ⟨⟨s, hs, by omega⟩, by omega⟩
  · rintro ⟨⟨s, hs, h⟩, k⟩
    by_cases hn : n < t.a
    · exact ⟨⟨s.a, min s.b t.a⟩, List.mem_flatMap.2 ⟨s, hs, by simp⟩, by show s.a ≤ n ∧ n < min s.b t.a; omega⟩
    · exact ⟨⟨max s.a t.b, s.b⟩, List.mem_flatMap.2 ⟨s, hs, by simp⟩, by show max s.a t.b ≤ n ∧ n < s.b; omega⟩
def stepC (l : List Sp) (t : Sp) : List Sp := if t.a < t.b then canon (cutL l t) else l
def minusL (l m : List Sp) : List Sp := m.foldl stepC (canon l)
theorem minus_go : ∀ (m l : List Sp), Canon l → Canon (m.foldl stepC l) ∧ ∀ n, hasS (m.foldl stepC l) n ↔ hasS l n ∧ ¬ hasS m n
  | [], l, h => ⟨h, fun n => by simp [hasS_nil]⟩
  | t :: m, l, h => by
    rw [List.foldl_cons]
    unfold stepC
    by_cases ht : t.a < t.b
    · rw [if_pos ht]
      have k := minus_go m (canon (cutL l t)) (canon_is _).1
      refine ⟨k.1, fun n => ?_⟩
      have := k.2 n
      unfold stepC at this
      rw [this, (canon_is _).2 n, cut_has l t ht, hasS_cons, not_or, and_assoc]
    · rw [if_neg ht]
      have k := minus_go m l h
      refine ⟨k.1, fun n => ?_⟩
      have := k.2 n
      unfold stepC at this
      rw [this, hasS_cons, not_or]
      constructor
      · rintro ⟨h1, h2⟩; exact ⟨h1, by omega, h2⟩
      · rintro ⟨h1, _, h2⟩; exact ⟨h1, h2⟩
theorem minus_is (l m : List Sp) : Canon (minusL l m) ∧ ∀ n, hasS (minusL l m) n ↔ hasS l n ∧ ¬ hasS m n := by
  have k := minus_go m (canon l) (canon_is l).1
  exact ⟨k.1, fun n => by unfold minusL; rw [k.2 n, (canon_is l).2 n]⟩
end Go.Proofs
end
section
set_option linter.unusedVariables false
set_option linter.unusedSimpArgs false
namespace Go.Proofs
set_option linter.unusedSimpArgs false
set_option linter.unusedVariables false
def sumN : Nat → (Nat → Int) → Int
  | 0, _ => 0
  | n + 1, f => sumN n f + f n
theorem sumN_in (lo sz v : Int) (h0 : 0 ≤ lo) (h1 : 0 ≤ sz) : ∀ n : Nat, sumN n (fun X => if lo ≤ (X : Int) ∧ (X : Int) < lo + sz then v else 0) = (min (lo + sz) n - min lo n) * v
  | 0 => by
    have e : min (lo + sz) ((0 : Nat) : Int) - min lo ((0 : Nat) : Int) = 0 := by omega
    rw [e, Int.zero_mul]; rfl
  | n + 1 => by
    show sumN n _ + _ = _
    rw [sumN_in lo sz v h0 h1 n]
    dsimp only
    split
    · have e : min (lo + sz) ((n + 1 : Nat) : Int) - min lo ((n + 1 : Nat) : Int) = (min (lo + sz) n - min lo n) + 1 := by omega
      rw [e, Int.add_mul, Int.one_mul]
    · have e : min (lo + sz) ((n + 1 : Nat) : Int) - min lo ((n + 1 : Nat) : Int) = (min (lo + sz) n - min lo n) := by omega
      rw [e, Int.add_zero]
theorem sumN_box {lo sz v : Int} {n : Nat} (h0 : 0 ≤ lo) (h1 : 0 ≤ sz) (h2 : lo + sz ≤ n) : sumN n (fun X => if lo ≤ (X : Int) ∧ (X : Int) < lo + sz then v else 0) = sz * v := by
  rw [sumN_in lo sz v h0 h1]
  congr 1
  omega
theorem sumN_congr {f g : Nat → Int} : ∀ n, (∀ i, i < n → f i = g i) → sumN n f = sumN n g
  | 0, _ => rfl
  | n + 1, h => by unfold sumN; rw [sumN_congr n fun i hi => h i (by omega), h n (by omega)]
theorem sumN_le {f g : Nat → Int} : ∀ n, (∀ i, i < n → f i ≤ g i) → sumN n f ≤ sumN n g
  | 0, _ => Int.le_refl _
  | n + 1, h => by
    unfold sumN
    have := sumN_le n fun i hi => h i (Nat.lt_succ_of_lt hi)
    have := h n (Nat.lt_succ_self n)
    omega
theorem sumN_zero : ∀ n, sumN n (fun _ => 0) = 0
  | 0 => rfl
  | n + 1 => by unfold sumN; rw [sumN_zero n]; rfl
theorem sumN_const (c : Int) : ∀ n : Nat, sumN n (fun _ => c) = n * c
  | 0 => by simp [sumN]
  | n + 1 => by unfold sumN; rw [sumN_const c n, Int.natCast_add, Int.add_mul]; simp
theorem sumN_add (f g : Nat → Int) : ∀ n, sumN n (fun i => f i + g i) = sumN n f + sumN n g
  | 0 => rfl
  | n + 1 => by unfold sumN; rw [sumN_add f g n]; dsimp only; omega
theorem sumN_list {α : Type} (n : Nat) (g : Nat → α → Int) : ∀ l : List α, (l.map fun q => sumN n fun X => g X q).sum = sumN n fun X => (l.map (g X)).sum
  | [] => by simp [sumN_zero]
  | a :: l => by
    simp only [List.map_cons, List.sum_cons]
    rw [sumN_list n g l, sumN_add]
theorem sum_filter {α : Type} (p : α → Bool) : ∀ l : List α, (l.map fun q => if p q = true then (1 : Int) else 0).sum = ((l.filter p).length : Int)
  | [] => rfl
  | a :: l => by
    rw [List.map_cons, List.sum_cons, sum_filter p l]
    by_cases h : p a = true
    · rw [if_pos h, List.filter_cons_of_pos h]; simp; omega
    · rw [if_neg h, List.filter_cons_of_neg h]; simp
end Go.Proofs
end
section
set_option linter.unusedVariables false
set_option linter.unusedSimpArgs false
namespace Go.Proofs
open Go Go.Ab
set_option linter.unusedSimpArgs false
set_option linter.unusedVariables false
def placesS (l : List Sp) : List Int := l.flatMap fun s => [s.a, s.b]
theorem mem_places (l : List Sp) (p : Int) : p ∈ placesS l ↔ ∃ s ∈ l, p = s.a ∨ p = s.b := by
  unfold placesS; simp
def segs (f : Int → Bool) : List Int → List Sp
  | p :: q :: r => (if f p = true then [⟨p, q⟩] else []) ++ segs f (q :: r)
  | _ => []
theorem segs_has (f : Int → Bool) : ∀ (r : List Int) (p : Int), (p :: r).Pairwise (· < ·) → (∀ m n, p ≤ m → m ≤ n → (∀ q ∈ r, m < q → n < q) → f n = f m) →
    ∀ n, hasS (segs f (p :: r)) n ↔ p ≤ n ∧ f n = true ∧ ∃ q ∈ r, n < q
  | [], p, _, _, n => by simp [segs, hasS_nil]
  | q :: r, p, hp, H, n => by
    have hp' := List.pairwise_cons.1 hp
    have hpq := hp'.1 q (by simp)
    have k := segs_has f r q hp'.2 (fun m n hm hmn hq => H m n (by omega) hmn fun x hx hmx => by
      rcases List.mem_cons.1 hx with rfl | hx
      · omega
      · exact hq x hx hmx) n
    have hq' := List.pairwise_cons.1 hp'.2
    unfold segs
    rw [hasS_append, k]
    have e : ∀ n, p ≤ n → n < q → f n = f p := fun n h1 h2 => H p n (Int.le_refl _) h1 fun x hx _ => by
      rcases List.mem_cons.1 hx with rfl | hx
      · exact h2
      · have := hq'.1 x hx; omega
    constructor
    · rintro (h | ⟨h1, h2, x, hx, h3⟩)
      · by_cases hf : f p = true
        · rw [if_pos hf, hasS_single] at h
          simp only at h
          exact ⟨h.1, by rw [e n h.1 h.2, hf], q, by simp, h.2⟩
        · rw [if_neg hf] at h; exact absurd h (hasS_nil n)
      · exact ⟨by omega, h2, x, by simp [hx], h3⟩
    · rintro ⟨h1, h2, x, hx, h3⟩
      by_cases hn : n < q
      · refine .inl ?_
        rw [← e n h1 hn, if_pos h2, hasS_single]
        exact ⟨h1, hn⟩
      · refine .inr ⟨by omega, h2, ?_⟩
        rcases List.mem_cons.1 hx with rfl | hx
        · omega
        · exact ⟨x, hx, h3⟩
theorem has_const {l : List Sp} {P : List Int} (hP : ∀ s ∈ l, s.a ∈ P ∧ s.b ∈ P) {m n : Int} (hmn : m ≤ n) (h : ∀ q ∈ P, m < q → n < q) : hasB l n = hasB l m := by
  rw [Bool.eq_iff_iff, hasB_iff, hasB_iff]
  constructor
  · rintro ⟨s, hs, h1, h2⟩
    refine ⟨s, hs, ?_, by omega⟩
    by_cases hh : s.a ≤ m
    · exact hh
    · have := h s.a (hP s hs).1 (by omega); omega
  · rintro ⟨s, hs, h1, h2⟩
    exact ⟨s, hs, by omega, h s.b (hP s hs).2 h2⟩
def sweepL (g : Bool → Bool → Bool) (a b : List Sp) (P : List Int) : List Sp := segs (fun p => g (hasB a p) (hasB b p)) P
theorem sweep_has {g : Bool → Bool → Bool} (hg : g false false = false) {a b : List Sp} {P : List Int} (hP : P.Pairwise (· < ·)) (hm : ∀ p, p ∈ P ↔ p ∈ placesS (a ++ b)) (n : Int) :
    hasS (sweepL g a b P) n ↔ g (hasB a n) (hasB b n) = true := by
  have ha : ∀ s ∈ a, s.a ∈ P ∧ s.b ∈ P := fun s hs => ⟨(hm _).2 ((mem_places _ _).2 ⟨s, by simp [hs], .inl rfl⟩), (hm _).2 ((mem_places _ _).2 ⟨s, by simp [hs], .inr rfl⟩)⟩
  have hb : ∀ s ∈ b, s.a ∈ P ∧ s.b ∈ P := fun s hs => ⟨(hm _).2 ((mem_places _ _).2 ⟨s, by simp [hs], .inl rfl⟩), (hm _).2 ((mem_places _ _).2 ⟨s, by simp [hs], .inr rfl⟩)⟩
  have hex : g (hasB a n) (hasB b n) = true → ∃ x ∈ P, ∃ y ∈ P, x ≤ n ∧ n < y := by
    intro h
    have : hasB a n = true ∨ hasB b n = true := by
      cases h1 : hasB a n <;> cases h2 : hasB b n <;> simp_all
    rcases this with h1 | h1 <;> rw [hasB_iff] at h1 <;> obtain ⟨s, hs, h2, h3⟩ := h1
    · exact ⟨s.a, (ha s hs).1, s.b, (ha s hs).2, h2, h3⟩
    · exact ⟨s.a, (hb s hs).1, s.b, (hb s hs).2, h2, h3⟩
  unfold sweepL
  cases P with
  | nil =>
    refine ⟨fun h => absurd h (hasS_nil n), fun h => ?_⟩
    obtain ⟨x, hx, _⟩ := hex h
    simp at hx
  | cons p r =>
    have hp := List.pairwise_cons.1 hP
    rw [segs_has _ r p hP (fun m n h1 h2 h3 => by
      have h4 : ∀ q ∈ p :: r, m < q → n < q := fun q hq hmq => by
        rcases List.mem_cons.1 hq with rfl | hq
        · omega
        · exact h3 q hq hmq
      show g (hasB a n) (hasB b n) = g (hasB a m) (hasB b m)
      rw [has_const ha h2 h4, has_const hb h2 h4]) n]
    refine ⟨fun h => h.2.1, fun h => ?_⟩
    obtain ⟨x, hx, y, hy, h1, h2⟩ := hex h
    have hpx : p ≤ x := by
      rcases List.mem_cons.1 hx with rfl | hx
      · omega
      · have := hp.1 x hx; omega
    refine ⟨by omega, h, y, ?_, h2⟩
    rcases List.mem_cons.1 hy with rfl | hy
    · omega
    · exact hy
/-- Totals. -/
def lenS (l : List Sp) : Int := (l.map fun s => s.b - s.a).sum
theorem lenS_cons (s : Sp) (l : List Sp) : lenS (s :: l) = (s.b - s.a) + lenS l := by simp [lenS]
theorem lenS_append (l m : List Sp) : lenS (l ++ m) = lenS l + lenS m := by
  induction l with
  | nil => simp [lenS]
  | cons s l ih => rw [List.cons_append, lenS_cons, lenS_cons, ih]; omega
theorem lenS_nonneg : ∀ {l : List Sp}, Canon l → 0 ≤ lenS l
  | [], _ => by simp [lenS]
  | s :: l, h => by
    have := lenS_nonneg h.tail
    have := h.2 s (by simp)
    rw [lenS_cons]; omega
theorem lenS_le : ∀ {l : List Sp} {lo hi : Int}, Canon l → lo ≤ hi → (∀ s ∈ l, lo ≤ s.a ∧ s.b ≤ hi) → lenS l ≤ hi - lo
  | [], lo, hi, _, h, _ => by simp [lenS]; omega
  | s :: l, lo, hi, hc, h, hr => by
    have h1 := hr s (by simp)
    have h2 := hc.2 s (by simp)
    have h3 := lenS_le (lo := s.b) (hi := hi) hc.tail h1.2 (fun t ht => ⟨by have := (List.pairwise_cons.1 hc.1).1 t ht; omega, (hr t (by simp [ht])).2⟩)
    rw [lenS_cons]; omega
theorem canon_ends {l : List Sp} {lo hi : Int} (h : ∀ s ∈ l, lo ≤ s.a ∧ s.b ≤ hi) {m : List Sp} (hm : Canon m) (hs : ∀ n, hasS m n → hasS l n) : ∀ s ∈ m, lo ≤ s.a ∧ s.b ≤ hi := by
  intro s hsm
  have h0 := hm.2 s hsm
  obtain ⟨t, ht, h1, h2⟩ := hs s.a ⟨s, hsm, by omega, h0⟩
  obtain ⟨u, hu, h3, h4⟩ := hs (s.b - 1) ⟨s, hsm, by omega, by omega⟩
  have := h t ht
  have := h u hu
  omega
def ind (l : List Sp) (n : Int) : Int := if hasB l n = true then 1 else 0
theorem lenS_ind (lo : Int) (k : Nat) : ∀ {l : List Sp}, Canon l → (∀ s ∈ l, lo ≤ s.a ∧ s.b ≤ lo + k) → lenS l = sumN k fun i => ind l (lo + i)
  | [], _, _ => by
    have : (fun i : Nat => ind [] (lo + i)) = fun _ => 0 := by funext i; simp [ind, hasB]
    rw [this, sumN_zero]; rfl
  | s :: l, hc, hr => by
    have h1 := hr s (by simp)
    have h2 := hc.2 s (by simp)
    have k1 := lenS_ind lo k hc.tail (fun t ht => hr t (by simp [ht]))
    have k2 := sumN_box (lo := s.a - lo) (sz := s.b - s.a) (v := 1) (n := k) (by omega) (by omega) (by omega)
    rw [lenS_cons, k1, ← Int.mul_one (s.b - s.a), ← k2, ← sumN_add]
    refine sumN_congr k fun i _ => ?_
    have e : hasB (s :: l) (lo + i) = (decide (s.a - lo ≤ (i : Int) ∧ (i : Int) < s.a - lo + (s.b - s.a)) || hasB l (lo + i)) := by
      rw [Bool.eq_iff_iff, hasB_iff, hasS_cons, Bool.or_eq_true, decide_eq_true_eq, hasB_iff]
      refine or_congr ?_ Iff.rfl
      omega
    have hno : (s.a - lo ≤ (i : Int) ∧ (i : Int) < s.a - lo + (s.b - s.a)) → hasB l (lo + i) = false := by
      intro hh
      rw [Bool.eq_false_iff]
      intro hb
      obtain ⟨t, ht, h3, h4⟩ := (hasB_iff _ _).1 hb
      have := (List.pairwise_cons.1 hc.1).1 t ht
      omega
    unfold ind
    rw [e]
    by_cases hh : s.a - lo ≤ (i : Int) ∧ (i : Int) < s.a - lo + (s.b - s.a)
    · rw [if_pos hh, hno hh, decide_eq_true hh]; simp
    · rw [if_neg hh, decide_eq_false hh]; simp
theorem totals_add {a b u x : List Sp} {lo : Int} {k : Nat} (ha : Canon a) (hb : Canon b) (hu : Canon u) (hx : Canon x) (ra : ∀ s ∈ a, lo ≤ s.a ∧ s.b ≤ lo + k) (rb : ∀ s ∈ b, lo ≤ s.a ∧ s.b ≤ lo + k)
    (mu : ∀ n, hasS u n ↔ hasS a n ∨ hasS b n) (mx : ∀ n, hasS x n ↔ hasS a n ∧ hasS b n) : lenS a + lenS b = lenS u + lenS x := by
  have hab : ∀ s ∈ a ++ b, lo ≤ s.a ∧ s.b ≤ lo + k := fun s hs => by
    rcases List.mem_append.1 hs with hs | hs
    · exact ra s hs
    · exact rb s hs
  have ru := canon_ends hab hu (fun n h => by rw [hasS_append]; exact (mu n).1 h)
  have rx := canon_ends ra hx (fun n h => ((mx n).1 h).1)
  rw [lenS_ind lo k ha ra, lenS_ind lo k hb rb, lenS_ind lo k hu ru, lenS_ind lo k hx rx, ← sumN_add, ← sumN_add]
  refine sumN_congr k fun i _ => ?_
  have e1 : hasB u (lo + i) = (hasB a (lo + i) || hasB b (lo + i)) := by rw [Bool.eq_iff_iff, hasB_iff, mu, Bool.or_eq_true, hasB_iff, hasB_iff]
  have e2 : hasB x (lo + i) = (hasB a (lo + i) && hasB b (lo + i)) := by rw [Bool.eq_iff_iff, hasB_iff, mx, Bool.and_eq_true, hasB_iff, hasB_iff]
  unfold ind
  rw [e1, e2]
  cases hasB a (lo + i) <;> cases hasB b (lo + i) <;> simp
theorem totals_split {a b d x : List Sp} {lo : Int} {k : Nat} (ha : Canon a) (hd : Canon d) (hx : Canon x) (ra : ∀ s ∈ a, lo ≤ s.a ∧ s.b ≤ lo + k)
    (md : ∀ n, hasS d n ↔ hasS a n ∧ ¬ hasS b n) (mx : ∀ n, hasS x n ↔ hasS a n ∧ hasS b n) : lenS a = lenS x + lenS d := by
  have rd := canon_ends ra hd (fun n h => ((md n).1 h).1)
  have rx := canon_ends ra hx (fun n h => ((mx n).1 h).1)
  rw [lenS_ind lo k ha ra, lenS_ind lo k hd rd, lenS_ind lo k hx rx, ← sumN_add]
  refine sumN_congr k fun i _ => ?_
  have e1 : hasB d (lo + i) = (hasB a (lo + i) && !hasB b (lo + i)) := by
    rw [Bool.eq_iff_iff, hasB_iff, md, Bool.and_eq_true, hasB_iff, Bool.not_eq_true', ← hasB_iff b, Bool.not_eq_true]
  have e2 : hasB x (lo + i) = (hasB a (lo + i) && hasB b (lo + i)) := by rw [Bool.eq_iff_iff, hasB_iff, mx, Bool.and_eq_true, hasB_iff, hasB_iff]
  unfold ind
  rw [e1, e2]
  cases hasB a (lo + i) <;> cases hasB b (lo + i) <;> simp
/-- The first free start. -/
def fitGo (len : Int) : List Sp → Int → Int
  | [], st => st
  | s :: l, st => if s.b ≤ st then fitGo len l st else if st < s.a ∧ len ≤ s.a - st then st else fitGo len l s.b
def fitStep (len : Int) (st : Int) (s : Sp) : Int := if s.b ≤ st ∨ (st < s.a ∧ len ≤ s.a - st) then st else s.b
theorem fit_stay {len : Int} : ∀ {l : List Sp} {st : Int}, (∀ s ∈ l, st < s.a ∧ len ≤ s.a - st) → l.foldl (fitStep len) st = st
  | [], st, _ => rfl
  | s :: l, st, h => by
    have h1 := h s (by simp)
    rw [List.foldl_cons]
    have e : fitStep len st s = st := if_pos (.inr h1)
    rw [e]
    exact fit_stay fun t ht => h t (by simp [ht])
theorem fit_same {len : Int} : ∀ {l : List Sp} {st : Int}, Canon l → l.foldl (fitStep len) st = fitGo len l st
  | [], st, _ => rfl
  | s :: l, st, h => by
    have h2 := List.pairwise_cons.1 h.1
    have h3 := h.2 s (by simp)
    rw [List.foldl_cons]
    unfold fitGo
    by_cases h1 : s.b ≤ st
    · rw [if_pos h1, show fitStep len st s = st from if_pos (.inl h1)]
      exact fit_same h.tail
    · rw [if_neg h1]
      by_cases h4 : st < s.a ∧ len ≤ s.a - st
      · rw [if_pos h4, show fitStep len st s = st from if_pos (.inr h4)]
        exact fit_stay fun t ht => by have := h2.1 t ht; omega
      · rw [if_neg h4, show fitStep len st s = s.b from if_neg (fun hh => hh.elim h1 h4)]
        exact fit_same h.tail
theorem fitGo_ge {len : Int} : ∀ {l : List Sp} {st : Int}, st ≤ fitGo len l st
  | [], st => Int.le_refl _
  | s :: l, st => by
    unfold fitGo
    split
    · exact fitGo_ge
    · split
      · exact Int.le_refl _
      · have := fitGo_ge (len := len) (l := l) (st := s.b); omega
theorem fitGo_le {len hi : Int} : ∀ {l : List Sp} {st : Int}, st ≤ hi → (∀ s ∈ l, s.b ≤ hi) → fitGo len l st ≤ hi
  | [], st, h, _ => h
  | s :: l, st, h, hr => by
    unfold fitGo
    split
    · exact fitGo_le h fun t ht => hr t (by simp [ht])
    · split
      · exact h
      · exact fitGo_le (hr s (by simp)) fun t ht => hr t (by simp [ht])
theorem fitGo_free {len : Int} (hlen : 1 ≤ len) : ∀ {l : List Sp} {st : Int}, Canon l → ∀ m, fitGo len l st ≤ m → m < fitGo len l st + len → ¬ hasS l m
  | [], st, _, m, _, _ => hasS_nil m
  | s :: l, st, h, m, h1, h2 => by
    have hp := List.pairwise_cons.1 h.1
    have hs := h.2 s (by simp)
    rw [hasS_cons]
    unfold fitGo at h1 h2
    split at h1
    · rename_i hb
      rw [if_pos hb] at h2
      have := fitGo_free hlen h.tail m h1 h2
      have hge := fitGo_ge (len := len) (l := l) (st := st)
      rintro (hh | hh)
      · omega
      · exact this hh
    · rename_i hb
      rw [if_neg hb] at h2
      split at h1
      · rename_i hc
        rw [if_pos hc] at h2
        rintro (hh | ⟨t, ht, h3, h4⟩)
        · omega
        · have := hp.1 t ht; omega
      · rename_i hc
        rw [if_neg hc] at h2
        have := fitGo_free hlen h.tail m h1 h2
        have hge := fitGo_ge (len := len) (l := l) (st := s.b)
        rintro (hh | hh)
        · omega
        · exact this hh
theorem fitGo_first {len : Int} (hlen : 1 ≤ len) : ∀ {l : List Sp} {st : Int}, Canon l → ∀ t, st ≤ t → t < fitGo len l st → ∃ m, t ≤ m ∧ m < t + len ∧ hasS l m
  | [], st, _, t, h1, h2 => by unfold fitGo at h2; omega
  | s :: l, st, h, t, h1, h2 => by
    have hs := h.2 s (by simp)
    unfold fitGo at h2
    split at h2
    · obtain ⟨m, k1, k2, k3⟩ := fitGo_first hlen h.tail t h1 h2
      exact ⟨m, k1, k2, (hasS_cons _ _ _).2 (.inr k3)⟩
    · split at h2
      · omega
      · rename_i hb hc
        by_cases htb : s.b ≤ t
        · obtain ⟨m, k1, k2, k3⟩ := fitGo_first hlen h.tail t htb h2
          exact ⟨m, k1, k2, (hasS_cons _ _ _).2 (.inr k3)⟩
        · by_cases hta : s.a ≤ t
          · exact ⟨t, Int.le_refl _, by omega, (hasS_cons _ _ _).2 (.inl ⟨hta, by omega⟩)⟩
          · refine ⟨s.a, by omega, ?_, (hasS_cons _ _ _).2 (.inl ⟨Int.le_refl _, hs⟩)⟩
            by_cases h5 : len ≤ s.a - st
            · exact absurd ⟨by omega, h5⟩ hc
            · omega
end Go.Proofs
end
section
set_option linter.unusedVariables false
set_option linter.unusedSimpArgs false
namespace Go.Proofs
open Go Go.Ab
set_option maxHeartbeats 4000000
set_option maxRecDepth 100000
set_option linter.unusedSimpArgs false
set_option linter.unusedVariables false
attribute [local irreducible] Awp aops aopsL Go.Ab.Pure PureOwn
def Sp.cells (s : Sp) : List AV := [.v (.int .i64 s.a), .v (.int .i64 s.b)]
def Sp.av (s : Sp) : AV := .agg s.cells
attribute [go_sem] Sp.av Sp.cells
def sps (l : List Sp) : List (List AV) := l.map Sp.cells
@[go_sem] theorem sps_len (l : List Sp) : (sps l).length = l.length := by simp [sps]
theorem sps_at (l : List Sp) (i : Nat) (h : i < l.length) : (sps l).getD i [] = (l.getD i zeroSp).cells := by
  simp [sps, List.getD_eq_getElem?_getD, h]
theorem sps_one (l : List Sp) : ∀ y ∈ sps l, y.length = 2 := by
  intro y hy; obtain ⟨s, _, rfl⟩ := List.mem_map.1 hy; rfl
theorem sps_append (l m : List Sp) : sps (l ++ m) = sps l ++ sps m := by simp [sps]
theorem sps_snoc (l : List Sp) (x : Sp) : sps l ++ [[.v (.int .i64 x.a), .v (.int .i64 x.b)]] = sps (l ++ [x]) := by simp [sps, Sp.cells]
theorem sps_one1 (x : Sp) : [[AV.v (.int .i64 x.a), .v (.int .i64 x.b)]] = sps [x] := rfl
theorem sps_nil : sps [] = [] := rfl
theorem sps_set (l : List Sp) (i : Nat) (x : Sp) : (sps l).set i [.v (.int .i64 x.a), .v (.int .i64 x.b)] = sps (l.set i x) := by
  simp [sps, List.map_set, Sp.cells]
theorem empty_ok (x : Sp) : Pure Try.prog 78 [x.av] (.v (.bool (decide (x.b ≤ x.a)))) := by
  refine fn_pure Try.F78 (Nat.le_of_ble_eq_true rfl) ?_; unfold Try.ac78
  repeat' (first
    | (apply Awp.sreg; (case hn => (simp only [List.length_cons, List.length_nil, Nat.reduceAdd] <;> rfl)))
    | (refine st_nil ?_)
    | (apply st_a; (case hc => rfl); (case he => (simp only [go_sem, *] <;> rfl)); (case hu => (simp only [updL_nil, updL_cons] <;> rfl)); (case hp => first | trivial))
    | (refine Awp.ret ?_; try simp only [go_sem, *]))
  all_goals repeat' (first | exact Lower.bool (by first | rfl | (simp only [true_and, Bool.true_and, Bool.false_and, Bool.and_true, Bool.and_false, Bool.true_or, Bool.false_or, reduceIte, Bool.false_eq_true, *]; done) | (simp only [true_and, reduceIte, Bool.false_eq_true, *] <;> rfl) | (simp [true_and]; done) | (simp_all [true_and]; done) | omega))
def inB (n : Int) (s : Sp) : Bool := decide (s.a ≤ n) && decide (n < s.b)
theorem index_ok (l : List Sp) (g : Nat) (cs : List AV) (p : Sp → Bool) (hl : l.length < 1000000) (hp : ∀ x : Sp, Pure Try.prog g [x.av, .rp cs] (.v (.bool (p x)))) :
    Pure Try.prog 85 [.sl (sps l), .fn g [.rp cs]] (.v (.int .i64 (idxF p l))) := by
  refine fn_pure Try.F85 (Nat.le_of_ble_eq_true rfl) ?_; unfold Try.ac85
  repeat' (first
    | (apply Awp.sreg; (case hn => (simp only [List.length_cons, List.length_nil, Nat.reduceAdd] <;> rfl)))
    | (refine st_nil ?_)
    | (apply st_a; (case hc => rfl); (case he => (simp only [go_sem, *] <;> rfl)); (case hu => (simp only [updL_nil, updL_cons] <;> rfl)); (case hp => first | trivial))
    | refine Awp.block ?_
    | refine Awp.seq ?_)
  refine Awp.loop (fun i : Nat => i ≤ l.length ∧ ∀ j, j < i → p (l.getD j zeroSp) = false) 40 (fun i => mkS [(0, .sl (sps l)), (1, .fn g [.rp cs]), (7, .v (.int .i64 l.length)), (8, .v (.int .i64 i))] []) (fun i => l.length - i) 0 (by simp) ?_ ?_
  · (apply Ghost.mk [] []; (case hdead => rfl); (case hinj => rfl); (case hV => (simp only [go_sem, *]) <;> (repeat' (first | refine And.intro ?_ ?_ | exact View.int (by first | rfl | omega | (simp; done) | (rw [wrap_i64] <;> (try simp only [Int.natCast_add]) <;> omega) | (simp [*]; done)) | (refine View.fnF ?_; (simp [AV.flat]; done))))); (case hB => (simp only [go_sem, *]) <;> (repeat' (first | skip; done))))
  · intro i ⟨hi, hj⟩
    by_cases hlt : i < l.length
    · have hlt' : (i : Int) < l.length := by omega
      have hat := sps_at l i hlt
      have hz : ((l.getD i zeroSp).cells).length = 2 := rfl
      have hpi := hp (l.getD i zeroSp)
      repeat' (first
    | (apply Awp.sreg; (case hn => (simp only [List.length_cons, List.length_nil, Nat.reduceAdd] <;> rfl)))
    | (refine st_nil ?_)
    | (apply st_a; (case hc => rfl); (case he => (simp only [go_sem, *] <;> rfl)); (case hu => (simp only [updL_nil, updL_cons] <;> rfl)); (case hp => first | trivial | omega))
    | (apply st_c; (case hc => (simp only [go_sem, *] <;> rfl)); (case hl => (simp only [go_sem, *] <;> rfl)); (case hn => (simp only [go_sem, *] <;> rfl)); (case hp => first | exact hpi | (have hXz := hpi; simp only [go_sem, *] at hXz; exact hXz)))
    | (apply Awp.reg; (case hn => (simp only [List.length_cons, List.length_nil, Nat.reduceAdd] <;> rfl)))
    | (refine Awp.ret ?_; try simp only [go_sem, *])
    | (refine Awp.skip ?_; try simp only [go_sem, *])
    | refine Awp.block ?_
    | (apply Awp.cond; (case hc => (simp only [go_sem, *] <;> rfl)); all_goals (intro hg; (try simp only [Bool.not_true, Bool.not_false, reduceCtorEq] at hg)))
    | refine Awp.seq ?_)
      · exact Lower.int (idxF_in hlt hg hj).symm
      · refine ⟨i + 1, ⟨by omega, ltSucc hj hg⟩, by omega, ?_⟩
        (apply Ghost.mk [] []; (case hdead => rfl); (case hinj => rfl); (case hV => (simp only [go_sem, *]) <;> (repeat' (first | refine And.intro ?_ ?_ | exact View.int (by first | rfl | omega | (simp; done) | (rw [wrap_i64] <;> (try simp only [Int.natCast_add]) <;> omega) | (simp [*]; done)) | (refine View.fnF ?_; (simp [AV.flat]; done))))); (case hB => (simp only [go_sem, *]) <;> (repeat' (first | skip; done))))
    · have hlt' : ¬ (i : Int) < l.length := by omega
      repeat' (first
    | (apply Awp.sreg; (case hn => (simp only [List.length_cons, List.length_nil, Nat.reduceAdd] <;> rfl)))
    | (refine st_nil ?_)
    | (apply st_a; (case hc => rfl); (case he => (simp only [go_sem, *] <;> rfl)); (case hu => (simp only [updL_nil, updL_cons] <;> rfl)); (case hp => first | trivial))
    | (refine Awp.ret ?_; try simp only [go_sem, *])
    | (refine Awp.exit ?_; try simp only [go_sem, *])
    | (apply Awp.cond; (case hc => (simp only [go_sem, *] <;> rfl)); all_goals (intro hg; (try simp only [Bool.not_true, Bool.not_false, reduceCtorEq] at hg); (try have hg' := hg); (try simp only [decide_eq_true_eq, decide_eq_false_iff_not, Bool.and_eq_true, Bool.or_eq_false_iff, bne_iff_ne, bne_eq_false_iff_eq, beq_iff_eq, beq_eq_false_iff_ne, Int.not_lt, Int.not_le, Int.ofNat_lt, Int.ofNat_le, Int.natCast_inj] at hg')))
    | refine Awp.seq ?_)
      exact Lower.int (idxF_out (Nat.le_of_not_lt hlt) hj).symm
theorem indexN_ok (l : List Sp) (g : Nat) (p : Sp → Bool) (hl : l.length < 1000000) (hp : ∀ x : Sp, Pure Try.prog g [x.av] (.v (.bool (p x)))) :
    Pure Try.prog 85 [.sl (sps l), .fn g []] (.v (.int .i64 (idxF p l))) := by
  refine fn_pure Try.F85 (Nat.le_of_ble_eq_true rfl) ?_; unfold Try.ac85
  repeat' (first
    | (apply Awp.sreg; (case hn => (simp only [List.length_cons, List.length_nil, Nat.reduceAdd] <;> rfl)))
    | (refine st_nil ?_)
    | (apply st_a; (case hc => rfl); (case he => (simp only [go_sem, *] <;> rfl)); (case hu => (simp only [updL_nil, updL_cons] <;> rfl)); (case hp => first | trivial))
    | refine Awp.block ?_
    | refine Awp.seq ?_)
  refine Awp.loop (fun i : Nat => i ≤ l.length ∧ ∀ j, j < i → p (l.getD j zeroSp) = false) 40 (fun i => mkS [(0, .sl (sps l)), (1, .fn g []), (7, .v (.int .i64 l.length)), (8, .v (.int .i64 i))] []) (fun i => l.length - i) 0 (by simp) ?_ ?_
  · (apply Ghost.mk [] []; (case hdead => rfl); (case hinj => rfl); (case hV => (simp only [go_sem, *]) <;> (repeat' (first | refine And.intro ?_ ?_ | exact View.int (by first | rfl | omega | (simp; done) | (rw [wrap_i64] <;> (try simp only [Int.natCast_add]) <;> omega) | (simp [*]; done)) | (refine View.fnF ?_; (simp [AV.flat]; done))))); (case hB => (simp only [go_sem, *]) <;> (repeat' (first | skip; done))))
  · intro i ⟨hi, hj⟩
    by_cases hlt : i < l.length
    · have hlt' : (i : Int) < l.length := by omega
      have hat := sps_at l i hlt
      have hz : ((l.getD i zeroSp).cells).length = 2 := rfl
      have hpi := hp (l.getD i zeroSp)
      repeat' (first
    | (apply Awp.sreg; (case hn => (simp only [List.length_cons, List.length_nil, Nat.reduceAdd] <;> rfl)))
    | (refine st_nil ?_)
    | (apply st_a; (case hc => rfl); (case he => (simp only [go_sem, *] <;> rfl)); (case hu => (simp only [updL_nil, updL_cons] <;> rfl)); (case hp => first | trivial | omega))
    | (apply st_c; (case hc => (simp only [go_sem, *] <;> rfl)); (case hl => (simp only [go_sem, *] <;> rfl)); (case hn => (simp only [go_sem, *] <;> rfl)); (case hp => first | exact hpi | (have hXz := hpi; simp only [go_sem, *] at hXz; exact hXz)))
    | (apply Awp.reg; (case hn => (simp only [List.length_cons, List.length_nil, Nat.reduceAdd] <;> rfl)))
    | (refine Awp.ret ?_; try simp only [go_sem, *])
    | (refine Awp.skip ?_; try simp only [go_sem, *])
    | refine Awp.block ?_
    | (apply Awp.cond; (case hc => (simp only [go_sem, *] <;> rfl)); all_goals (intro hg; (try simp only [Bool.not_true, Bool.not_false, reduceCtorEq] at hg)))
    | refine Awp.seq ?_)
      · exact Lower.int (idxF_in hlt hg hj).symm
      · refine ⟨i + 1, ⟨by omega, ltSucc hj hg⟩, by omega, ?_⟩
        (apply Ghost.mk [] []; (case hdead => rfl); (case hinj => rfl); (case hV => (simp only [go_sem, *]) <;> (repeat' (first | refine And.intro ?_ ?_ | exact View.int (by first | rfl | omega | (simp; done) | (rw [wrap_i64] <;> (try simp only [Int.natCast_add]) <;> omega) | (simp [*]; done)) | (refine View.fnF ?_; (simp [AV.flat]; done))))); (case hB => (simp only [go_sem, *]) <;> (repeat' (first | skip; done))))
    · have hlt' : ¬ (i : Int) < l.length := by omega
      repeat' (first
    | (apply Awp.sreg; (case hn => (simp only [List.length_cons, List.length_nil, Nat.reduceAdd] <;> rfl)))
    | (refine st_nil ?_)
    | (apply st_a; (case hc => rfl); (case he => (simp only [go_sem, *] <;> rfl)); (case hu => (simp only [updL_nil, updL_cons] <;> rfl)); (case hp => first | trivial))
    | (refine Awp.ret ?_; try simp only [go_sem, *])
    | (refine Awp.exit ?_; try simp only [go_sem, *])
    | (apply Awp.cond; (case hc => (simp only [go_sem, *] <;> rfl)); all_goals (intro hg; (try simp only [Bool.not_true, Bool.not_false, reduceCtorEq] at hg); (try have hg' := hg); (try simp only [decide_eq_true_eq, decide_eq_false_iff_not, Bool.and_eq_true, Bool.or_eq_false_iff, bne_iff_ne, bne_eq_false_iff_eq, beq_iff_eq, beq_eq_false_iff_ne, Int.not_lt, Int.not_le, Int.ofNat_lt, Int.ofNat_le, Int.natCast_inj] at hg')))
    | refine Awp.seq ?_)
      exact Lower.int (idxF_out (Nat.le_of_not_lt hlt) hj).symm
end Go.Proofs
end
section
set_option linter.unusedVariables false
set_option linter.unusedSimpArgs false
namespace Go.Proofs
open Go Go.Ab
set_option maxHeartbeats 4000000
set_option maxRecDepth 100000
set_option linter.unusedSimpArgs false
set_option linter.unusedVariables false
attribute [local irreducible] Awp aops aopsL Go.Ab.Pure PureOwn
def zrow : List AV := [.v (.int .i64 0), .v (.int .i64 0)]
def delRow (l : List Sp) : List (List AV) := sps (l.filter fullB) ++ List.replicate (l.length - (l.filter fullB).length) zrow
theorem full_not (s : Sp) : fullB s = !decide (s.b ≤ s.a) := by
  unfold fullB
  rw [Bool.eq_iff_iff]; simp
theorem filter_none {l : List Sp} (h : ∀ j, j < l.length → decide ((l.getD j zeroSp).b ≤ (l.getD j zeroSp).a) = false) : l.filter fullB = l := by
  rw [List.filter_eq_self]
  intro x hx
  obtain ⟨i, hi, rfl⟩ := List.getElem_of_mem hx
  have := h i hi
  rw [List.getD_eq_getElem?_getD, List.getElem?_eq_getElem hi] at this
  simp only [Option.getD_some] at this
  rw [full_not, this]; rfl
theorem idxF_some {α : Type} {p : α → Bool} {l : List α} (d : α) : (idxF p l = -1 ∧ ∀ j, j < l.length → p (l.getD j d) = false) ∨ ∃ i, i < l.length ∧ idxF p l = i ∧ p (l.getD i d) = true ∧ ∀ j, j < i → p (l.getD j d) = false := by
  have hg : ∀ j (hh : j < l.length), l.getD j d = l[j] := fun j hh => by simp [List.getD_eq_getElem?_getD, hh]
  unfold idxF
  by_cases h : l.findIdx p < l.length
  · right
    refine ⟨l.findIdx p, h, by rw [if_pos h], ?_, fun j hj => ?_⟩
    · rw [hg _ h]; exact List.findIdx_getElem (w := h)
    · rw [hg j (by omega)]
      have := List.not_of_lt_findIdx hj
      simpa using this
  · left
    refine ⟨by rw [if_neg h], fun j hj => ?_⟩
    rw [hg j hj]
    rw [Bool.eq_false_iff]
    intro hp
    exact h (List.findIdx_lt_length_of_exists ⟨_, List.getElem_mem hj, hp⟩)
def keepL (l : List Sp) (j : Nat) : List Sp := (l.take j).filter fullB
theorem take_snocS (l : List Sp) (i : Nat) (h : i < l.length) : l.take (i + 1) = l.take i ++ [l.getD i zeroSp] := by
  rw [List.take_add_one, List.getElem?_eq_getElem h]
  simp [List.getD_eq_getElem?_getD, h]
theorem keep_step (l : List Sp) (j : Nat) (h : j < l.length) : keepL l (j + 1) = keepL l j ++ (if fullB (l.getD j zeroSp) = true then [l.getD j zeroSp] else []) := by
  unfold keepL
  rw [take_snocS l j h, List.filter_append]
  congr 1
  by_cases hp : fullB (l.getD j zeroSp) = true
  · rw [if_pos hp, List.filter_cons_of_pos hp]; rfl
  · rw [if_neg hp, List.filter_cons_of_neg hp]; rfl
theorem drop_cons (l : List Sp) (j : Nat) (h : j < l.length) : l.drop j = l.getD j zeroSp :: l.drop (j + 1) := by
  rw [List.drop_eq_getElem_cons h]
  simp [List.getD_eq_getElem?_getD, h]
def dS (l : List Sp) (q : Nat × List Sp) : AState :=
  mkS [(0, .own 2), (1, .fn 78 []), (5, .v (.int .i64 (keepL l q.1).length)), (6, .v (.int .i64 q.1))] [(2, .row (sps (keepL l q.1 ++ q.2 ++ l.drop q.1)) 2 37)]
theorem del_cc (l : List Sp) (nm : Nat) (hl : l.length < 100000) (hnm : 3 ≤ nm) :
    CallC Try.prog 76 [.own 2, .fn 78 []] [(2, .row (sps l) 2 37)] nm (.pre 2 (l.filter fullB).length) [(2, some (.row (delRow l) 2 37))] := by
  have c0 := indexN_ok l 78 (fun s => decide (s.b ≤ s.a)) (by omega) empty_ok
  have hll := sps_len l
  rcases idxF_some (p := fun s : Sp => decide (s.b ≤ s.a)) (l := l) zeroSp with ⟨e, hall⟩ | ⟨i0, hi0, e, hp, hall⟩
  · have hf := filter_none hall
    have hd : delRow l = sps l := by unfold delRow; rw [hf]; simp
    rw [hd, hf]
    rw [e] at c0
    have key : CallC Try.prog 76 [.own 2, .fn 78 []] [(2, .row (sps l) 2 37)] nm (.own 2) [(2, some (.row (sps l) 2 37))] := by
      refine fn_cc Try.F76 (Nat.le_of_ble_eq_true rfl) (bs := 3) ?_ ?_ ?_ ?_ ?_ ?_ ?_
      · simp
      · simp; omega
      · simp
      · simp
      · simp only [List.map_cons, List.map_nil, List.mem_cons, List.not_mem_nil, or_false]
        rintro p rfl
        exact .row rfl
      · intro j hj
        match j, hj with
        | 0, _ => exact .own rfl (by simp)
        | 1, _ => exact .fn rfl fun j hj => by simp at hj
      · unfold Try.ac76
        clear hd hf hall e
        have hav0 : av [AV.own 2, AV.fn 78 []] 0 = AV.own 2 := rfl
        have hav1 : av [AV.own 2, AV.fn 78 []] 1 = AV.fn 78 [] := rfl
        repeat' (first
    | (apply Awp.sreg; (case hn => (simp only [List.length_cons, List.length_nil, Nat.reduceAdd] <;> rfl)))
    | (refine st_nil ?_)
    | (apply st_a; (case hc => rfl); (case he => (simp only [go_sem, *] <;> rfl)); (case hu => (simp only [updL_nil, updL_cons] <;> rfl)); (case hp => first | trivial))
    | (apply st_cd; (case hc => (simp only [go_sem, *] <;> rfl)); (case hl => (simp only [go_sem, *] <;> rfl)); (case hn => (simp only [go_sem, *] <;> rfl)); (case hp => first | exact c0 | (have hXz := c0; simp only [go_sem, *] at hXz; exact hXz)); (case hd => first | exact .v _ | exact .any | exact .nils | (repeat' (first | exact Dry.v _ | exact Dry.any | exact Dry.nils | exact Dry.slE | refine Dry.agg ?_ | refine Dry.tup ?_ | (refine List.forall_mem_cons.2 (And.intro ?_ ?_)) | (intro cQ hQ; cases hQ; done)))); (case hm => first | decide | (simp; done)))
    | (refine Awp.ret ?_; try simp only [go_sem, *])
    | (apply Awp.cond; (case hc => (simp only [go_sem, *] <;> rfl)); all_goals (intro hg; (try simp only [Bool.not_true, Bool.not_false, reduceCtorEq] at hg)))
    | refine Awp.seq ?_)
        have hr : ∀ k, k < 3 → rn nm 3 k = k := fun k hk => by unfold rn; rw [if_neg (by omega)]
        refine ⟨3, Nat.le_refl _, .own (hr 2 (by omega)) (by simp), fun k b' hk => ?_⟩
        by_cases h2 : k = 2
        · subst h2
          have e1 : b' = .row (sps l) 2 37 := by simpa [upd] using hk.symm
          subst e1
          rw [hr 2 (by omega)]
          exact ⟨_, rfl, .row rfl⟩
        · simp [upd, updL, listH, h2] at hk
    have := key.ownPre (es := sps l) (sz := 2) (e := 37) (by simp [updL, upd]) (by simp)
    rw [sps_len] at this
    exact this
  · rw [e] at c0
    refine fn_cc Try.F76 (Nat.le_of_ble_eq_true rfl) (bs := 3) ?_ ?_ ?_ ?_ ?_ ?_ ?_
    · simp
    · simp; omega
    · simp
    · simp
    · simp only [List.map_cons, List.map_nil, List.mem_cons, List.not_mem_nil, or_false]
      rintro p rfl
      exact .row rfl
    · intro j hj
      match j, hj with
      | 0, _ => exact .own rfl (by simp)
      | 1, _ => exact .fn rfl fun j hj => by simp at hj
    · unfold Try.ac76
      have hav0 : av [AV.own 2, AV.fn 78 []] 0 = AV.own 2 := rfl
      have hav1 : av [AV.own 2, AV.fn 78 []] 1 = AV.fn 78 [] := rfl
      have hk0 : keepL l i0 = l.take i0 := by
        unfold keepL
        rw [List.filter_eq_self]
        intro x hx
        obtain ⟨j, hj, rfl⟩ := List.mem_take_iff_getElem.1 hx
        have := hall j (by omega)
        rw [List.getD_eq_getElem?_getD, List.getElem?_eq_getElem (by omega)] at this
        simp only [Option.getD_some] at this
        rw [full_not, this]; rfl
      have hk1 : keepL l (i0 + 1) = l.take i0 := by
        rw [keep_step l i0 hi0, full_not, hp, hk0]; simp
      have hrow : keepL l (i0 + 1) ++ [l.getD i0 zeroSp] ++ l.drop (i0 + 1) = l := by
        rw [hk1, List.append_assoc, List.singleton_append, ← drop_cons l i0 hi0, List.take_append_drop]
      have hk1l : (keepL l (i0 + 1)).length = i0 := by rw [hk1]; simp; omega
      have hne : ((i0 : Int) == -1) = false := by simp
      have hw : IntKind.i64.wrap ((i0 : Int) + 1) = ((i0 + 1 : Nat) : Int) := by rw [wrap_i64 (by omega) (by omega)]; simp
      clear hall e hp hk0 hk1
      repeat' (first
    | (apply Awp.sreg; (case hn => (simp only [List.length_cons, List.length_nil, Nat.reduceAdd] <;> rfl)))
    | (refine st_nil ?_)
    | (apply st_a; (case hc => rfl); (case he => (simp only [go_sem, *] <;> rfl)); (case hu => (simp only [updL_nil, updL_cons] <;> rfl)); (case hp => first | trivial))
    | (apply st_cd; (case hc => (simp only [go_sem, *] <;> rfl)); (case hl => (simp only [go_sem, *] <;> rfl)); (case hn => (simp only [go_sem, *] <;> rfl)); (case hp => first | exact c0 | (have hXz := c0; simp only [go_sem, *] at hXz; exact hXz)); (case hd => first | exact .v _ | exact .any | exact .nils | (repeat' (first | exact Dry.v _ | exact Dry.any | exact Dry.nils | exact Dry.slE | refine Dry.agg ?_ | refine Dry.tup ?_ | (refine List.forall_mem_cons.2 (And.intro ?_ ?_)) | (intro cQ hQ; cases hQ; done)))); (case hm => first | decide | (simp; done)))
    | (refine Awp.skip ?_; try simp only [go_sem, *])
    | refine Awp.block ?_
    | (apply Awp.cond; (case hc => (simp only [go_sem, *] <;> rfl)); all_goals (intro hg; (try simp only [Bool.not_true, Bool.not_false, reduceCtorEq] at hg)))
    | refine Awp.seq ?_)
      refine Awp.loop (fun q : Nat × List Sp => q.1 ≤ l.length ∧ 0 < q.2.length ∧ (keepL l q.1).length + q.2.length = q.1) 100 (dS l) (fun q => l.length - q.1) (i0 + 1, [l.getD i0 zeroSp]) ⟨by dsimp only; omega, by simp, by dsimp only; rw [hk1l]; simp⟩ ?_ ?_
      · unfold dS
        dsimp only
        rw [hrow, hk1l]
        (apply Ghost.mkB []; (case hnb => rfl); (case hbx => omega); (case hinj => rfl); (case hV => (simp only [go_sem, *]) <;> (repeat' (first | refine And.intro ?_ ?_ | exact .own rfl (by decide) | (refine View.fnF ?_; (simp [AV.flat]; done))))); (case hB => (simp only [go_sem, *]) <;> (repeat' (first | exact ⟨_, rfl, .rowE (by first | rfl | omega | (simp; done) | (rw [wrap_i64] <;> (try simp only [Int.natCast_add]) <;> omega) | (simp [*]; done))⟩))))
      · rintro ⟨j, G⟩ ⟨hj, hG, hKG⟩
        dsimp only at hj hG hKG
        clear hrow hk1l hne hw c0
        have hlen : (sps (keepL l j ++ G ++ l.drop j)).length = l.length := by rw [sps_len]; simp; omega
        by_cases hlt : j < l.length
        · have hlt' : (j : Int) < l.length := by omega
          have hat : (sps (keepL l j ++ G ++ l.drop j)).getD j [] = (l.getD j zeroSp).cells := by
            rw [sps_at _ _ (by simp; omega)]
            congr 1
            simp only [List.getD_eq_getElem?_getD]
            rw [List.getElem?_append_right (by simp; omega)]
            simp [hKG]
          have hz : ((l.getD j zeroSp).cells).length = 2 := rfl
          have hst := keep_step l j hlt
          have hdr := drop_cons l j hlt
          have hc := empty_ok (l.getD j zeroSp)
          obtain ⟨g, G', rfl⟩ : ∃ g G', G = g :: G' := by
            cases G with
            | nil => simp at hG
            | cons g G' => exact ⟨g, G', rfl⟩
          have hKl : (keepL l j).length < l.length := by simp at hKG; omega
          cases hB : decide ((l.getD j zeroSp).b ≤ (l.getD j zeroSp).a)
          · rw [hB] at hc
            rw [full_not, hB] at hst
            simp only [Bool.not_false, if_true] at hst
            have hkl2 : (keepL l (j + 1)).length = (keepL l j).length + 1 := by rw [hst]; simp
            have hset : (sps (keepL l j ++ g :: G' ++ l.drop j)).set (keepL l j).length (splice ((sps (keepL l j ++ g :: G' ++ l.drop j)).getD (keepL l j).length []) 0 [.v (.int .i64 (l.getD j zeroSp).a), .v (.int .i64 (l.getD j zeroSp).b)]) = sps (keepL l (j + 1) ++ (G' ++ [l.getD j zeroSp]) ++ l.drop (j + 1)) := by
              rw [sps_at _ _ (by simp)]
              have e1 : splice ((keepL l j ++ g :: G' ++ l.drop j).getD (keepL l j).length zeroSp).cells 0 [.v (.int .i64 (l.getD j zeroSp).a), .v (.int .i64 (l.getD j zeroSp).b)] = [.v (.int .i64 (l.getD j zeroSp).a), .v (.int .i64 (l.getD j zeroSp).b)] := rfl
              rw [e1, sps_set, hst, hdr]
              congr 1
              rw [List.append_assoc, List.set_append]
              simp
            have hcells : ((sps (keepL l j ++ g :: G' ++ l.drop j)).getD (keepL l j).length []).length = 2 := by
              rw [sps_at _ _ (by simp)]; rfl
            have hinv : (keepL l (j + 1)).length + (G' ++ [l.getD j zeroSp]).length = j + 1 := by
              rw [hkl2]; simp at hKG ⊢; omega
            have hw2 : IntKind.i64.wrap (((keepL l j).length : Int) + 1) = ((keepL l (j + 1)).length : Int) := by rw [hkl2, wrap_i64 (by omega) (by omega)]; simp
            unfold dS
            dsimp only
            generalize hE : sps (keepL l j ++ g :: G' ++ l.drop j) = E at *
            generalize hk : (keepL l j).length = K at *
            generalize l.getD j zeroSp = v at *
            clear hst hdr hB hk hE hkl2
            repeat' (first
    | (apply Awp.sreg; (case hn => (simp only [List.length_cons, List.length_nil, Nat.reduceAdd] <;> rfl)))
    | (refine st_nil ?_)
    | (apply st_a; (case hc => rfl); (case he => (simp only [go_sem, *] <;> rfl)); (case hu => (simp only [updL_nil, updL_cons] <;> rfl)); (case hp => first | trivial | omega | (simp; done)))
    | (apply st_c; (case hc => (simp only [go_sem, *] <;> rfl)); (case hl => (simp only [go_sem, *] <;> rfl)); (case hn => (simp only [go_sem, *] <;> rfl)); (case hp => first | exact hc | (have hXz := hc; simp only [go_sem, *] at hXz; exact hXz)))
    | (apply Awp.reg; (case hn => (simp only [List.length_cons, List.length_nil, Nat.reduceAdd] <;> rfl)))
    | (refine Awp.skip ?_; try simp only [go_sem, *])
    | refine Awp.block ?_
    | (apply Awp.cond; (case hc => (simp only [go_sem, *] <;> rfl)); all_goals (intro hg; (try simp only [Bool.not_true, Bool.not_false, reduceCtorEq] at hg)))
    | refine Awp.seq ?_)
            refine ⟨(j + 1, G' ++ [v]), ⟨by dsimp only; omega, by simp, hinv⟩, by dsimp only; omega, ?_⟩
            dsimp only
            (apply Ghost.mkB []; (case hnb => rfl); (case hbx => omega); (case hinj => rfl); (case hV => (simp only [go_sem, *]) <;> (repeat' (first | refine And.intro ?_ ?_ | exact View.int (by first | rfl | exact hset | omega | (simp; done) | (rw [wrap_i64] <;> (try simp only [Int.natCast_add]) <;> omega) | (simp [*]; done)) | exact .own rfl (by decide) | (refine View.fnF ?_; (simp [AV.flat]; done))))); (case hB => (simp only [go_sem, *]) <;> (repeat' (first | exact ⟨_, rfl, .rowE (by first | rfl | exact hset | omega | (simp; done) | (rw [wrap_i64] <;> (try simp only [Int.natCast_add]) <;> omega) | (simp [*]; done))⟩))))
          · rw [hB] at hc
            rw [full_not, hB] at hst
            simp only [Bool.not_true, Bool.false_eq_true, if_false, List.append_nil] at hst
            have hrow2 : keepL l (j + 1) ++ (g :: G' ++ [l.getD j zeroSp]) ++ l.drop (j + 1) = keepL l j ++ g :: G' ++ l.drop j := by
              rw [hst, hdr]; simp
            have hinv : (keepL l (j + 1)).length + (g :: G' ++ [l.getD j zeroSp]).length = j + 1 := by
              rw [hst]; simp at hKG ⊢; omega
            unfold dS
            dsimp only
            rw [← hst] at hat hlen hKl hrow2 ⊢
            generalize l.getD j zeroSp = v at *
            generalize hE : sps (keepL l (j + 1) ++ g :: G' ++ l.drop j) = E at *
            clear hst hdr hB
            repeat' (first
    | (apply Awp.sreg; (case hn => (simp only [List.length_cons, List.length_nil, Nat.reduceAdd] <;> rfl)))
    | (refine st_nil ?_)
    | (apply st_a; (case hc => rfl); (case he => (simp only [go_sem, *] <;> rfl)); (case hu => (simp only [updL_nil, updL_cons] <;> rfl)); (case hp => first | trivial | omega))
    | (apply st_c; (case hc => (simp only [go_sem, *] <;> rfl)); (case hl => (simp only [go_sem, *] <;> rfl)); (case hn => (simp only [go_sem, *] <;> rfl)); (case hp => first | exact hc | (have hXz := hc; simp only [go_sem, *] at hXz; exact hXz)))
    | (apply Awp.reg; (case hn => (simp only [List.length_cons, List.length_nil, Nat.reduceAdd] <;> rfl)))
    | (refine Awp.skip ?_; try simp only [go_sem, *])
    | refine Awp.block ?_
    | (apply Awp.cond; (case hc => (simp only [go_sem, *] <;> rfl)); all_goals (intro hg; (try simp only [Bool.not_true, Bool.not_false, reduceCtorEq] at hg)))
    | refine Awp.seq ?_)
            refine ⟨(j + 1, g :: G' ++ [v]), ⟨by dsimp only; omega, by simp, hinv⟩, by dsimp only; omega, ?_⟩
            dsimp only
            rw [hrow2, hE]
            (apply Ghost.mkB []; (case hnb => rfl); (case hbx => omega); (case hinj => rfl); (case hV => (simp only [go_sem, *]) <;> (repeat' (first | refine And.intro ?_ ?_ | exact View.int (by first | rfl | omega | (simp; done) | (rw [wrap_i64] <;> (try simp only [Int.natCast_add]) <;> omega) | (simp [*]; done)) | exact .own rfl (by decide) | (refine View.fnF ?_; (simp [AV.flat]; done))))); (case hB => (simp only [go_sem, *]) <;> (repeat' (first | exact ⟨_, rfl, .rowE (by first | rfl | omega | (simp; done) | (rw [wrap_i64] <;> (try simp only [Int.natCast_add]) <;> omega) | (simp [*]; done))⟩))))
        · have hlt' : ¬ (j : Int) < l.length := by omega
          have hjl : j = l.length := by omega
          have hdr : l.drop j = [] := List.drop_eq_nil_of_le (by omega)
          have hkf : keepL l j = l.filter fullB := by unfold keepL; rw [List.take_of_length_le (by omega)]
          have hfin : (sps (keepL l j ++ G ++ l.drop j)).take (keepL l j).length ++ List.replicate ((sps (keepL l j ++ G ++ l.drop j)).length - (keepL l j).length) [AV.v (.int .i64 0), .v (.int .i64 0)] = delRow l := by
            rw [hlen]
            unfold delRow zrow
            rw [← hkf]
            congr 1
            rw [List.append_assoc, sps_append, ← sps_len (keepL l j), List.take_left]
          have hpl : (l.filter fullB).length = (keepL l j).length := by rw [hkf]
          have hKl : (keepL l j).length < l.length := by omega
          rw [hpl]
          unfold dS
          dsimp only
          generalize hE : sps (keepL l j ++ G ++ l.drop j) = E at *
          generalize (keepL l j).length = K at *
          clear hE hdr hkf hpl hjl
          repeat' (first
    | (apply Awp.sreg; (case hn => (simp only [List.length_cons, List.length_nil, Nat.reduceAdd] <;> rfl)))
    | (refine st_nil ?_)
    | (apply st_a; (case hc => rfl); (case he => (simp only [go_sem, *] <;> rfl)); (case hu => (simp only [updL_nil, updL_cons] <;> rfl)); (case hp => first | trivial | omega | (simp; omega)))
    | (refine Awp.ret ?_; try simp only [go_sem, *])
    | (refine Awp.exit ?_; try simp only [go_sem, *])
    | (apply Awp.cond; (case hc => (simp only [go_sem, *] <;> rfl)); all_goals (intro hg; (try simp only [Bool.not_true, Bool.not_false, reduceCtorEq] at hg)))
    | refine Awp.seq ?_)
          have hr : ∀ k, k < 3 → rn nm 3 k = k := fun k hk => by unfold rn; rw [if_neg (by omega)]
          refine ⟨3, Nat.le_refl _, .pre (hr 2 (by omega)) (by simp), fun k b' hk => ?_⟩
          by_cases h2 : k = 2
          · subst h2
            have e1 : b' = .row (delRow l) 2 37 := by simpa [upd] using hk.symm
            subst e1
            rw [hr 2 (by omega)]
            exact ⟨_, rfl, .row (by rw [hlen] at hfin; exact hfin)⟩
          · simp [upd, updL, listH, h2] at hk
end Go.Proofs
end
section
set_option linter.unusedVariables false
set_option linter.unusedSimpArgs false
namespace Go.Proofs
open Go.Shelf
def Try.sortIv_ren : Go.Shelf.Ren := ⟨fun | 6 => 79 | 15 => 52 | 14 => 86 | 28 => 64 | 29 => 65 | 20 => 97 | 21 => 98 | 22 => 99 | 23 => 100 | 24 => 101 | 25 => 102 | 26 => 103 | 27 => 104 | 46 => 108 | 47 => 72 | 48 => 73 | 49 => 109 | 50 => 110 | 57 => 112 | n => n, fun | 22 => 39 | 24 => 37 | 25 => 103 | 3 => 3 | 39 => 72 | 0 => 0 | 53 => 85 | 55 => 87 | 4 => 4 | 46 => 78 | 45 => 77 | 50 => 82 | 5 => 5 | 9 => 9 | 66 => 93 | 70 => 97 | 76 => 107 | 77 => 108 | n => n, fun | n => n⟩
theorem Try.sortIv : Go.Proofs.SlLaysF0.n6 Try.prog Try.sortIv_ren := {
  mixed := by kernel_rfl
  f6 := ⟨Try.f79.name, by decide, Try.func79.trans (congrArg some (by kernel_rfl))⟩
  f14 := ⟨Try.f86.name, by decide, Try.func86.trans (congrArg some (by kernel_rfl))⟩
  f15 := Try.func52.trans (congrArg some (by kernel_rfl))
  f20 := ⟨Try.f97.name, by decide, Try.func97.trans (congrArg some (by kernel_rfl))⟩
  f21 := ⟨Try.f98.name, by decide, Try.func98.trans (congrArg some (by kernel_rfl))⟩
  f22 := ⟨Try.f99.name, by decide, Try.func99.trans (congrArg some (by kernel_rfl))⟩
  f23 := ⟨Try.f100.name, by decide, Try.func100.trans (congrArg some (by kernel_rfl))⟩
  f24 := ⟨Try.f101.name, by decide, Try.func101.trans (congrArg some (by kernel_rfl))⟩
  f25 := ⟨Try.f102.name, by decide, Try.func102.trans (congrArg some (by kernel_rfl))⟩
  f26 := ⟨Try.f103.name, by decide, Try.func103.trans (congrArg some (by kernel_rfl))⟩
  f27 := ⟨Try.f104.name, by decide, Try.func104.trans (congrArg some (by kernel_rfl))⟩
  f28 := Try.func64.trans (congrArg some (by kernel_rfl))
  f29 := Try.func65.trans (congrArg some (by kernel_rfl))
  f46 := ⟨Try.f108.name, by decide, Try.func108.trans (congrArg some (by kernel_rfl))⟩
  f47 := Try.func72.trans (congrArg some (by kernel_rfl))
  f48 := Try.func73.trans (congrArg some (by kernel_rfl))
  f49 := ⟨Try.f109.name, by decide, Try.func109.trans (congrArg some (by kernel_rfl))⟩
  f50 := ⟨Try.f110.name, by decide, Try.func110.trans (congrArg some (by kernel_rfl))⟩
  f57 := ⟨Try.f112.name, by decide, Try.func112.trans (congrArg some (by kernel_rfl))⟩
  t0 := Try.underlying0
  a0 := Try.isAgg0
  z0 := Try.sizeOf0
  v0 := Try.zeroValue0
  t3 := Try.underlying3
  a3 := Try.isAgg3
  z3 := Try.sizeOf3
  v3 := Try.zeroValue3
  t4 := Try.underlying4
  a4 := Try.isAgg4
  z4 := Try.sizeOf4
  v4 := Try.zeroValue4
  t5 := Try.underlying5
  a5 := Try.isAgg5
  z5 := Try.sizeOf5
  v5 := Try.zeroValue5
  t9 := Try.underlying9
  a9 := Try.isAgg9
  z9 := Try.sizeOf9
  v9 := Try.zeroValue9
  t22 := Try.underlying39
  a22 := Try.isAgg39
  z22 := Try.sizeOf39
  v22 := Try.zeroValue39
  t25 := Try.underlying103
  a25 := Try.isAgg103
  z25 := Try.sizeOf103
  v25 := Try.zeroValue103
  t39 := Try.underlying72
  a39 := Try.isAgg72
  z39 := Try.sizeOf72
  v39 := Try.zeroValue72
  t45 := Try.underlying77
  a45 := Try.isAgg77
  z45 := Try.sizeOf77
  v45 := Try.zeroValue77
  t46 := Try.underlying78
  a46 := Try.isAgg78
  z46 := Try.sizeOf78
  v46 := Try.zeroValue78
  t50 := Try.underlying82
  a50 := Try.isAgg82
  z50 := Try.sizeOf82
  v50 := Try.zeroValue82
  t53 := Try.underlying85
  a53 := Try.isAgg85
  z53 := Try.sizeOf85
  v53 := Try.zeroValue85
  t55 := Try.underlying87
  a55 := Try.isAgg87
  z55 := Try.sizeOf87
  v55 := Try.zeroValue87
  t66 := Try.underlying93
  a66 := Try.isAgg93
  z66 := Try.sizeOf93
  v66 := Try.zeroValue93
  t70 := Try.underlying97
  a70 := Try.isAgg97
  z70 := Try.sizeOf97
  v70 := Try.zeroValue97
  t76 := Try.underlying107
  a76 := Try.isAgg107
  z76 := Try.sizeOf107
  v76 := Try.zeroValue107
  t77 := Try.underlying108
  a77 := Try.isAgg108
  z77 := Try.sizeOf108
  v77 := Try.zeroValue108 }
def Try.sortSk_ren : Go.Shelf.Ren := ⟨fun | 6 => 45 | 15 => 52 | 14 => 51 | 28 => 64 | 29 => 65 | 20 => 56 | 21 => 57 | 22 => 58 | 23 => 59 | 24 => 60 | 25 => 61 | 26 => 62 | 27 => 63 | 46 => 71 | 47 => 72 | 48 => 73 | 49 => 74 | 50 => 75 | 57 => 84 | n => n, fun | 22 => 45 | 24 => 50 | 25 => 67 | 3 => 3 | 39 => 72 | 0 => 0 | 53 => 85 | 55 => 87 | 4 => 4 | 46 => 78 | 45 => 77 | 50 => 82 | 5 => 5 | 9 => 9 | 66 => 93 | 70 => 97 | 76 => 107 | 77 => 108 | n => n, fun | n => n⟩
theorem Try.sortSk : Go.Proofs.SlLaysF0.n6 Try.prog Try.sortSk_ren := {
  mixed := by kernel_rfl
  f6 := ⟨Try.f45.name, by decide, Try.func45.trans (congrArg some (by kernel_rfl))⟩
  f14 := ⟨Try.f51.name, by decide, Try.func51.trans (congrArg some (by kernel_rfl))⟩
  f15 := Try.func52.trans (congrArg some (by kernel_rfl))
  f20 := ⟨Try.f56.name, by decide, Try.func56.trans (congrArg some (by kernel_rfl))⟩
  f21 := ⟨Try.f57.name, by decide, Try.func57.trans (congrArg some (by kernel_rfl))⟩
  f22 := ⟨Try.f58.name, by decide, Try.func58.trans (congrArg some (by kernel_rfl))⟩
  f23 := ⟨Try.f59.name, by decide, Try.func59.trans (congrArg some (by kernel_rfl))⟩
  f24 := ⟨Try.f60.name, by decide, Try.func60.trans (congrArg some (by kernel_rfl))⟩
  f25 := ⟨Try.f61.name, by decide, Try.func61.trans (congrArg some (by kernel_rfl))⟩
  f26 := ⟨Try.f62.name, by decide, Try.func62.trans (congrArg some (by kernel_rfl))⟩
  f27 := ⟨Try.f63.name, by decide, Try.func63.trans (congrArg some (by kernel_rfl))⟩
  f28 := Try.func64.trans (congrArg some (by kernel_rfl))
  f29 := Try.func65.trans (congrArg some (by kernel_rfl))
  f46 := ⟨Try.f71.name, by decide, Try.func71.trans (congrArg some (by kernel_rfl))⟩
  f47 := Try.func72.trans (congrArg some (by kernel_rfl))
  f48 := Try.func73.trans (congrArg some (by kernel_rfl))
  f49 := ⟨Try.f74.name, by decide, Try.func74.trans (congrArg some (by kernel_rfl))⟩
  f50 := ⟨Try.f75.name, by decide, Try.func75.trans (congrArg some (by kernel_rfl))⟩
  f57 := ⟨Try.f84.name, by decide, Try.func84.trans (congrArg some (by kernel_rfl))⟩
  t0 := Try.underlying0
  a0 := Try.isAgg0
  z0 := Try.sizeOf0
  v0 := Try.zeroValue0
  t3 := Try.underlying3
  a3 := Try.isAgg3
  z3 := Try.sizeOf3
  v3 := Try.zeroValue3
  t4 := Try.underlying4
  a4 := Try.isAgg4
  z4 := Try.sizeOf4
  v4 := Try.zeroValue4
  t5 := Try.underlying5
  a5 := Try.isAgg5
  z5 := Try.sizeOf5
  v5 := Try.zeroValue5
  t9 := Try.underlying9
  a9 := Try.isAgg9
  z9 := Try.sizeOf9
  v9 := Try.zeroValue9
  t22 := Try.underlying45
  a22 := Try.isAgg45
  z22 := Try.sizeOf45
  v22 := Try.zeroValue45
  t25 := Try.underlying67
  a25 := Try.isAgg67
  z25 := Try.sizeOf67
  v25 := Try.zeroValue67
  t39 := Try.underlying72
  a39 := Try.isAgg72
  z39 := Try.sizeOf72
  v39 := Try.zeroValue72
  t45 := Try.underlying77
  a45 := Try.isAgg77
  z45 := Try.sizeOf77
  v45 := Try.zeroValue77
  t46 := Try.underlying78
  a46 := Try.isAgg78
  z46 := Try.sizeOf78
  v46 := Try.zeroValue78
  t50 := Try.underlying82
  a50 := Try.isAgg82
  z50 := Try.sizeOf82
  v50 := Try.zeroValue82
  t53 := Try.underlying85
  a53 := Try.isAgg85
  z53 := Try.sizeOf85
  v53 := Try.zeroValue85
  t55 := Try.underlying87
  a55 := Try.isAgg87
  z55 := Try.sizeOf87
  v55 := Try.zeroValue87
  t66 := Try.underlying93
  a66 := Try.isAgg93
  z66 := Try.sizeOf93
  v66 := Try.zeroValue93
  t70 := Try.underlying97
  a70 := Try.isAgg97
  z70 := Try.sizeOf97
  v70 := Try.zeroValue97
  t76 := Try.underlying107
  a76 := Try.isAgg107
  z76 := Try.sizeOf107
  v76 := Try.zeroValue107
  t77 := Try.underlying108
  a77 := Try.isAgg108
  z77 := Try.sizeOf108
  v77 := Try.zeroValue108 }
def Try.cmpInt_ren : Go.Shelf.Ren := ⟨fun | 5 => 81 | 7 => 87 | n => n, fun | 22 => 3 | 3 => 3 | 4 => 4 | n => n, fun | n => n⟩
theorem Try.cmpInt : Go.Proofs.SlLaysC2.n5 Try.prog Try.cmpInt_ren := {
  mixed := by kernel_rfl
  f5 := ⟨Try.f81.name, by decide, Try.func81.trans (congrArg some (by kernel_rfl))⟩
  f7 := ⟨Try.f87.name, by decide, Try.func87.trans (congrArg some (by kernel_rfl))⟩
  t3 := Try.underlying3
  a3 := Try.isAgg3
  z3 := Try.sizeOf3
  v3 := Try.zeroValue3
  t4 := Try.underlying4
  a4 := Try.isAgg4
  z4 := Try.sizeOf4
  v4 := Try.zeroValue4
  t22 := Try.underlying3
  a22 := Try.isAgg3
  z22 := Try.sizeOf3
  v22 := Try.zeroValue3 }
def Try.cloneSp_ren : Go.Shelf.Ren := ⟨fun | 41 => 77 | n => n, fun | 22 => 39 | 23 => 37 | 4 => 4 | n => n, fun | n => n⟩
theorem Try.cloneSp : Go.Proofs.SlLaysE0.n41 Try.prog Try.cloneSp_ren := {
  mixed := by kernel_rfl
  f41 := ⟨Try.f77.name, by decide, Try.func77.trans (congrArg some (by kernel_rfl))⟩
  t4 := Try.underlying4
  a4 := Try.isAgg4
  z4 := Try.sizeOf4
  v4 := Try.zeroValue4
  t22 := Try.underlying39
  a22 := Try.isAgg39
  z22 := Try.sizeOf39
  v22 := Try.zeroValue39 }
def Try.growSp_ren : Go.Shelf.Ren := ⟨fun | 4 => 82 | n => n, fun | 22 => 39 | 25 => 37 | 3 => 3 | 4 => 4 | 9 => 9 | 20 => 20 | 0 => 0 | 2 => 3 | n => n, fun | n => n⟩
theorem Try.growSp : Go.Proofs.Lays8.n4 Try.prog Try.growSp_ren := {
  mixed := by kernel_rfl
  f4 := ⟨Try.f82.name, by decide, Try.func82.trans (congrArg some (by kernel_rfl))⟩
  t0 := Try.underlying0
  a0 := Try.isAgg0
  z0 := Try.sizeOf0
  v0 := Try.zeroValue0
  t3 := Try.underlying3
  a3 := Try.isAgg3
  z3 := Try.sizeOf3
  v3 := Try.zeroValue3
  t4 := Try.underlying4
  a4 := Try.isAgg4
  z4 := Try.sizeOf4
  v4 := Try.zeroValue4
  t9 := Try.underlying9
  a9 := Try.isAgg9
  z9 := Try.sizeOf9
  v9 := Try.zeroValue9
  t20 := Try.underlying20
  a20 := Try.isAgg20
  z20 := Try.sizeOf20
  v20 := Try.zeroValue20
  t22 := Try.underlying39
  a22 := Try.isAgg39
  z22 := Try.sizeOf39
  v22 := Try.zeroValue39 }
end Go.Proofs
end
section
set_option linter.unusedVariables false
set_option linter.unusedSimpArgs false
namespace Go.Ab
open Go.Shelf Go.RowKit Go.Lib Go.Proofs Go.Sort
set_option linter.unusedSimpArgs false
set_option linter.unusedVariables false
def prs (l : List (Int × Int)) : List (List AV) := l.map fun x => [.v (.int .i64 x.1), .v (.int .i64 x.2)]
theorem prs_len (l : List (Int × Int)) : (prs l).length = l.length := by simp [prs]
theorem prs_append (l t : List (Int × Int)) : prs (l ++ t) = prs l ++ prs t := by simp [prs]
def encP (x : Int × Int) : List Value := [.int .i64 x.1, .int .i64 x.2]
def pc (l : List (Int × Int)) (j : Nat) : Int := if j % 2 = 0 then (l.getD (j / 2) (0, 0)).1 else (l.getD (j / 2) (0, 0)).2
def flatP (l : List (Int × Int)) : List Value := (List.range (l.length * 2)).map fun j => Value.int .i64 (pc l j)
theorem flatP_len (l : List (Int × Int)) : (flatP l).length = l.length * 2 := by simp [flatP]
theorem flatP_get (l : List (Int × Int)) (j : Nat) (h : j < l.length * 2) : cv (flatP l) j = .int .i64 (pc l j) := by
  simp [cv, flatP, List.getD_eq_getElem?_getD, h]
theorem prs_cell (l : List (Int × Int)) (i j : Nat) (hi : i < l.length) (hj : j < 2) : av ((prs l).getD i []) j = .v (.int .i64 (pc l (i * 2 + j))) := by
  have e1 : (i * 2 + j) / 2 = i := by omega
  have e2 : (i * 2 + j) % 2 = j := by omega
  unfold pc
  rw [e1, e2]
  have e3 : (prs l).getD i [] = [.v (.int .i64 (l.getD i (0, 0)).1), .v (.int .i64 (l.getD i (0, 0)).2)] := by
    simp [prs, List.getD_eq_getElem?_getD, hi]
  rw [e3]
  match j, hj with
  | 0, _ => rfl
  | 1, _ => rfl
theorem fits_prs {st : Nat → Prop} {w : World} {l : List (Int × Int)} {e : TypeId} {c : Value} {xs : List Value} (h : RowFits st w (prs l) 2 e c xs) : xs = flatP l := by
  have hlen : xs.length = l.length * 2 := by rw [h.row.len, prs_len]
  apply List.ext_getElem (by rw [flatP_len]; exact hlen)
  intro j h1 h2
  have h3 := h.cell (j / 2) (j % 2) (by rw [prs_len]; omega) (by omega)
  rw [prs_cell l (j / 2) (j % 2) (by omega) (by omega), show j / 2 * 2 + j % 2 = j by omega] at h3
  have e1 : cv xs j = xs[j] := by simp [cv, List.getD_eq_getElem?_getD, List.getElem?_eq_getElem h1]
  have e2 : (flatP l)[j] = .int .i64 (pc l j) := by simp [flatP]
  rw [e2, ← e1]
  generalize cv xs j = q at h3 ⊢
  cases h3
  rfl
theorem prs_fits {st : Nat → Prop} {w : World} {l : List (Int × Int)} {e : TypeId} {c : Value} (h : RowRep w e 2 c l.length (flatP l)) : RowFits st w (prs l) 2 e c (flatP l) := by
  refine ⟨by intro y hy; obtain ⟨x, _, rfl⟩ := List.mem_map.1 hy; rfl, by omega, by rw [prs_len]; exact h, by simp [flatP, Value.oneCell'], fun i j hi hj => ?_⟩
  rw [prs_len] at hi
  rw [prs_cell l i j hi hj, flatP_get l (i * 2 + j) (by omega)]
  exact .v _
def sortP (cf : Int × Int → Int × Int → Int) (l : List (Int × Int)) : List (Int × Int) := (pdq (ltOf cf) l.toArray 0 l.toArray.size (Lib.bitLen l.toArray.size) true true).toList
theorem sortP_spec (cf : Int × Int → Int × Int → Int) (hO : SWO (ltOf cf)) (l : List (Int × Int)) : (sortP cf l).Perm l ∧ (sortP cf l).Pairwise fun x y => ltOf cf y x = false := by
  have h := pdq_sorts (ltOf cf) hO l.toArray 0 l.toArray.size (Lib.bitLen l.toArray.size) true true (Nat.zero_le _) (Nat.le_refl _) (Or.inl rfl)
  obtain ⟨⟨h1, _, h2⟩, h3⟩ := h
  unfold sortP
  generalize pdq (ltOf cf) l.toArray 0 l.toArray.size (Lib.bitLen l.toArray.size) true true = d at *
  have e1 : (d.extract 0 l.toArray.size).toList = d.toList := by rw [← h1]; simp
  have e2 : (l.toArray.extract 0 l.toArray.size).toList = l := by simp
  rw [e1, e2] at h2
  refine ⟨h2, List.pairwise_iff_getElem.2 fun i j hi hj hij => ?_⟩
  have := h3 i j (Nat.zero_le _) hij (by rw [← h1]; simpa using hj)
  rw [getElem!_pos d j (by simpa using hj), getElem!_pos d i (by simpa using hi)] at this
  simpa using this
theorem sortP_len (cf : Int × Int → Int × Int → Int) (hO : SWO (ltOf cf)) (l : List (Int × Int)) : (sortP cf l).length = l.length := (sortP_spec cf hO l).1.length_eq
theorem flatK_get (l : List (Int × Int)) (j : Nat) (h : j < l.length * 2) : (flatK encP 2 l.toArray)[j]! = .int .i64 (pc l j) := by
  rw [get_flatK encP 2 l.toArray j (by simpa using h)]
  have hi : j / 2 < l.length := by omega
  have e1 : l.toArray[j / 2]! = l.getD (j / 2) (0, 0) := by
    rw [getElem!_pos l.toArray _ (by simpa using hi)]
    simp [List.getD_eq_getElem?_getD, hi]
  rw [e1]
  unfold pc encP
  rcases Nat.mod_two_eq_zero_or_one j with h2 | h2 <;> rw [h2] <;> rfl
theorem heap_sortP {w : World} {g n : Nat} {os : Array Obj} {cur : Array Value} {e : TypeId} {fr : Nat × Nat} (F : Array Value) (hb : w.heap[g]? = some (.cells cur e fr)) :
    (grow (putRow id (Sort.ahead w n) g 0 F) os).heap[g]? = some (.cells (putCells id 0 F cur) e fr) := by
  have hg : g < w.heap.size := (Array.getElem?_eq_some_iff.1 hb).1
  rw [heap_grow_old _ _ (by simpa using hg)]
  simp [putRow, mapBlock, Sort.ahead, Array.getElem?_modify, hb, onCells]
theorem grownBy_sortP {w : World} {g n : Nat} {os : Array Obj} (F : Array Value) : w.grownBy (grow (putRow id (Sort.ahead w n) g 0 F) os) (some g) := by
  refine ⟨rfl, rfl, rfl, by simp, fun k hk hne => ?_⟩
  rw [heap_grow_old _ _ (by simpa using hk)]
  have : g ≠ k := fun e => hne (by rw [e])
  simp [putRow, mapBlock, Sort.ahead, Array.getElem?_modify, this]
theorem sortF_cc {P : Program} {ρ : Ren} (L : SlLaysF0.n6 P ρ) (aE : ∀ w, (isAgg (ρ.t 24)).run P w = .ok true w) (zE : ∀ w, (Go.sizeOf (ρ.t 24)).run P w = .ok 2 w) (hcall : Callable P (ρ.f 6)) (cf : Int × Int → Int × Int → Int) (hO : SWO (ltOf cf)) (g : Nat)
    (eg : ∀ args w, (callFunc g args).run P w = .ok (.enter g args) w)
    (hcmp : ∀ (x y : Int × Int) (W : World), Calls P g #[.agg #[.int .i64 x.1, .int .i64 x.2], .agg #[.int .i64 y.1, .int .i64 y.2]] W fun e w' => e = .returned (.int .i64 (cf x y)) ∧ ∃ q os', w' = grow (W.drewN q) os')
    (l t : List (Int × Int)) (b nm : Nat) (e : TypeId) (hl : l.length < 1000000) : CallC P (ρ.f 6) [.pre b l.length, .fn g []] [(b, .row (prs (l ++ t)) 2 e)] nm (.tup []) [(b, some (.row (prs (sortP cf l ++ t)) 2 e))] := by
  refine ⟨hcall, fun prov β w cs hn hb hi hv => ?_⟩
  have hlk : ∀ n, updL (listH [(b, Blk.row (prs (l ++ t)) 2 e)]) [(b, some (Blk.row (prs (sortP cf l ++ t)) 2 e))] n = if n = b then some (.row (prs (sortP cf l ++ t)) 2 e) else none := by
    intro n; simp only [updL, upd, listH]; split <;> simp
  have hB := hb b (.row (prs (l ++ t)) 2 e) (by simp [listH])
  obtain ⟨xs, hf⟩ := hB
  obtain rfl := fits_prs hf
  obtain ⟨hlen, hv⟩ := hv
  match cs, hlen with
  | [c, c2], _ =>
  have h1 := hv 0 (by simp)
  have h2 := hv 1 (by simp)
  simp only [av_zero, cv, List.getD_cons_zero] at h1
  obtain ⟨ad, n, cap, cap', hβ, rfl, hk, hm⟩ := h1.pre_inv
  obtain ⟨ys, hc2, hy, _⟩ := SimV.fn_inv (f := g) (cs := []) h2
  have hys : ys = [] := List.eq_nil_of_length_eq_zero (by simpa using hy.symm)
  subst hys
  have hc2 : c2 = .func (.func g) #[] #[] := hc2
  subst hc2
  have hsl := sortP_len cf hO l
  have tail : ∀ w', w.grownBy w' (blkOf (β b)) → RowRep w' e 2 (β b) (sortP cf l ++ t).length (flatP (sortP cf l ++ t)) →
      ∃ c β', Ending.returned (Value.tuple #[]) = .returned c ∧ w'.os = w.os ∧ w'.tape = w.tape ∧ w'.output = w.output ∧ w.heap.size ≤ w'.heap.size ∧ Grows β β' ∧ (∀ n, n ≠ nm → β' n = β n) ∧
      (∀ g, g < w.heap.size → (∀ n b', listH [(b, Blk.row (prs (l ++ t)) 2 e)] n = some b' → n ∈ [(b, some (Blk.row (prs (sortP cf l ++ t)) 2 e))].map (·.1) → blkOf (β n) ≠ some g) → w'.heap[g]? = w.heap[g]?) ∧
      SimV (stb (fun g => prov g ∨ w.heap.size ≤ g) w' β' (updL (listH [(b, Blk.row (prs (l ++ t)) 2 e)]) [(b, some (Blk.row (prs (sortP cf l ++ t)) 2 e))])) β' w' (.tup []) c ∧
      (∀ n b', updL (listH [(b, Blk.row (prs (l ++ t)) 2 e)]) [(b, some (Blk.row (prs (sortP cf l ++ t)) 2 e))] n = some b' → n ∈ [(b, some (Blk.row (prs (sortP cf l ++ t)) 2 e))].map (·.1) → BlkRep (stb (fun g => prov g ∨ w.heap.size ≤ g) w' β' (updL (listH [(b, Blk.row (prs (l ++ t)) 2 e)]) [(b, some (Blk.row (prs (sortP cf l ++ t)) 2 e))])) β' w' b' (β' n) ∧
        ∀ g, blkOf (β' n) = some g → w.heap.size ≤ g ∨ ∃ m b', listH [(b, Blk.row (prs (l ++ t)) 2 e)] m = some b' ∧ m ∈ [(b, some (Blk.row (prs (sortP cf l ++ t)) 2 e))].map (·.1) ∧ blkOf (β m) = some g) ∧
      Inj β' (updL (listH [(b, Blk.row (prs (l ++ t)) 2 e)]) [(b, some (Blk.row (prs (sortP cf l ++ t)) 2 e))]) := by
    intro w' hg hr
    refine ⟨_, β, rfl, hg.os, hg.tape, hg.output, hg.size, Grows.refl _, fun _ _ => rfl, fun g hgl hno => ?_, .pure (.tup [] [] rfl (fun j hj => by simp at hj)), fun n b' hb' _ => ?_, ?_⟩
    · exact hg.block g hgl (fun e' => hno b (.row (prs (l ++ t)) 2 e) (by simp [listH]) (by simp) e'.symm)
    · rw [hlk] at hb'
      split at hb'
      · rename_i hnb; subst hnb
        simp at hb'; subst hb'
        exact ⟨⟨_, prs_fits hr⟩, fun g hgb => .inr ⟨n, .row (prs (l ++ t)) 2 e, by simp [listH], by simp, hgb⟩⟩
      · cases hb'
    · intro n m b1 b2 g h1 h2 _ _
      rw [hlk] at h1 h2
      split at h1
      · split at h2
        · simp_all
        · cases h2
      · cases h1
  rw [hβ] at hf
  obtain ⟨hnl, hnc, hcm, hpos⟩ := row_cap hf
  rw [prs_len] at hnl
  by_cases hl0 : l = []
  · subst hl0
    have hs0 : sortP cf [] = [] := List.eq_nil_of_length_eq_zero hsl
    refine (AnyF.slices_SortFunc_none L ad cap' (.func (.func g) #[] #[]) w).mono fun e' w' ⟨he, hw⟩ => ?_
    subst he; subst hw
    refine tail w' ⟨rfl, rfl, rfl, Nat.le_refl _, fun _ _ _ => rfl⟩ ?_
    rw [hs0]
    have := hf.row
    rw [prs_len] at this
    rw [hβ]
    exact this
  · have hlp : 0 < l.length := List.length_pos_iff.2 hl0
    obtain ⟨gb, cur, rfl, hg, hcur, htk⟩ := hpos (by rw [hnl]; simp; omega)
    have hlt : gb < w.heap.size := (Array.getElem?_eq_some_iff.1 hg).1
    rw [prs_len] at htk
    have hla : (l ++ t).length = l.length + t.length := by simp
    have hcs : (l ++ t).length * 2 ≤ cur.size := by rw [hcur]; exact Nat.mul_le_mul_right _ (by omega)
    have hcell : ∀ j, j < (l ++ t).length * 2 → cur[j]? = some (.int .i64 (pc (l ++ t) j)) := by
      intro j hj
      have h3 : (cur.toList.take ((l ++ t).length * 2))[j]? = (flatP (l ++ t))[j]? := by rw [htk]
      rw [List.getElem?_take_of_lt hj] at h3
      rw [← Array.getElem?_toList, h3]
      unfold flatP
      rw [List.getElem?_map, List.getElem?_range hj]
      rfl
    have pl : ∀ j, j < l.length * 2 → pc (l ++ t) j = pc l j := by
      intro j hj
      unfold pc
      have : (l ++ t).getD (j / 2) (0, 0) = l.getD (j / 2) (0, 0) := by
        simp only [List.getD_eq_getElem?_getD]
        rw [List.getElem?_append_left (by omega)]
      rw [this]
    have pr : ∀ j, l.length * 2 ≤ j → pc (sortP cf l ++ t) j = pc (l ++ t) j := by
      intro j hj
      unfold pc
      have : (sortP cf l ++ t).getD (j / 2) (0, 0) = (l ++ t).getD (j / 2) (0, 0) := by
        simp only [List.getD_eq_getElem?_getD]
        rw [List.getElem?_append_right (by omega), List.getElem?_append_right (by omega), hsl]
      rw [this]
    have pl2 : ∀ j, j < l.length * 2 → pc (sortP cf l ++ t) j = pc (sortP cf l) j := by
      intro j hj
      unfold pc
      have : (sortP cf l ++ t).getD (j / 2) (0, 0) = (sortP cf l).getD (j / 2) (0, 0) := by
        simp only [List.getD_eq_getElem?_getD]
        rw [List.getElem?_append_left (by omega)]
      rw [this]
    have hH : HoldsK encP 2 w gb 0 l.toArray := by
      intro j hj
      rw [size_flatK] at hj
      have hj : j < l.length * 2 := by simpa using hj
      refine ⟨?_, by simp [World.frozen?, hg]⟩
      rw [flatK_get l j hj]
      simp only [World.cell?, hg, Nat.zero_add, Option.isSome_none, Bool.false_eq_true, if_false, id]
      rw [hcell j (by omega), pl j hj]
    have key := AnyQ.slices_SortFunc_eq L 2 aE zE encP (fun _ => rfl) (fun x v hv => by simp [encP] at hv; rcases hv with rfl | rfl <;> rfl) cf hO g #[] gb 0 cap' l.toArray w eg (fun m os dk _ x y => hcmp x y _) hH hlt (by simp; omega)
    have es : l.toArray.size = l.length := by simp
    rw [es] at key
    refine key.mono fun e' w' ⟨he, q, os, hw⟩ => ?_
    subst he
    have hsp : (pdq (ltOf cf) l.toArray 0 l.length (Lib.bitLen l.length) true true) = (sortP cf l).toArray := by unfold sortP; simp
    rw [hsp] at hw
    subst hw
    have hbk : blkOf (β b) = some gb := by rw [hβ]; simp [blkOf]; omega
    refine tail _ ?_ ?_
    · rw [hbk]; exact grownBy_sortP _
    · have hla2 : (sortP cf l ++ t).length = n := by simp [hsl]; omega
      rw [hβ, hla2]
      refine .inr ⟨gb, cap, rfl, by omega, by rw [flatP_len, hla2], .inr ⟨gb, cap, _, rfl, Nat.zero_le _, heap_sortP _ hg, hnc, hcm, by simp [putCells, hcur], ?_⟩⟩
      apply List.ext_getElem?
      intro j
      by_cases hj : j < n * 2
      · rw [List.getElem?_take_of_lt hj, Array.getElem?_toList]
        have e1 : (flatP (sortP cf l ++ t))[j]? = some (.int .i64 (pc (sortP cf l ++ t) j)) := by
          unfold flatP
          rw [List.getElem?_map, List.getElem?_range (by rw [hla2]; exact hj)]
          rfl
        rw [e1]
        simp only [putCells, Array.getElem?_mapIdx, size_flatK, List.size_toArray, hsl, Nat.zero_le, Nat.zero_add, true_and, Nat.sub_zero, id]
        rw [hcell j (by rw [← hnl]; exact hj)]
        simp only [Option.map_some]
        by_cases h3 : j < l.length * 2
        · rw [if_pos h3, flatK_get _ j (by rw [hsl]; exact h3), pl2 j h3]
        · rw [if_neg h3, pr j (by omega)]
      · rw [List.getElem?_take_eq_none (by omega), List.getElem?_eq_none (by rw [flatP_len, hla2]; omega)]
end Go.Ab
end
section
set_option linter.unusedVariables false
set_option linter.unusedSimpArgs false
namespace Go.Ab
open Go.Shelf Go.RowKit Go.Lib Go.Proofs Go.Sort
set_option linter.unusedSimpArgs false
set_option linter.unusedVariables false
section
variable {α : Type} [Inhabited α] (enc : α → List Value) (sz : Nat)
def rowsE (l : List α) : List (List AV) := l.map fun x => (enc x).map AV.v
omit [Inhabited α] in
theorem rowsE_len (l : List α) : (rowsE enc l).length = l.length := by simp [rowsE]
omit [Inhabited α] in
theorem rowsE_append (l t : List α) : rowsE enc (l ++ t) = rowsE enc l ++ rowsE enc t := by simp [rowsE]
def pcE (l : List α) (j : Nat) : Value := cv (enc (l.getD (j / sz) default)) (j % sz)
def flatE (l : List α) : List Value := (List.range (l.length * sz)).map (pcE enc sz l)
theorem flatE_len (l : List α) : (flatE enc sz l).length = l.length * sz := by simp [flatE]
theorem flatE_get (l : List α) (j : Nat) (h : j < l.length * sz) : cv (flatE enc sz l) j = pcE enc sz l j := by
  simp [cv, flatE, List.getD_eq_getElem?_getD, h]
theorem divs {sz i j : Nat} (hj : j < sz) : (i * sz + j) / sz = i ∧ (i * sz + j) % sz = j := by
  have h0 : 0 < sz := by omega
  constructor
  · rw [Nat.add_comm, Nat.add_mul_div_right _ _ h0, Nat.div_eq_of_lt hj, Nat.zero_add]
  · rw [Nat.add_comm, Nat.add_mul_mod_self_right, Nat.mod_eq_of_lt hj]
theorem div_in {sz n j : Nat} (h0 : 0 < sz) (h : j < n * sz) : j / sz < n := (Nat.div_lt_iff_lt_mul h0).2 h
variable (hk : ∀ x, (enc x).length = sz) (h1 : ∀ x, ∀ v ∈ enc x, v.oneCell' = true) (h0 : 0 < sz)
include hk in
theorem rowsE_cell (l : List α) (i j : Nat) (hi : i < l.length) (hj : j < sz) : av ((rowsE enc l).getD i []) j = .v (pcE enc sz l (i * sz + j)) := by
  unfold pcE
  rw [(divs hj).1, (divs hj).2]
  have e3 : (rowsE enc l).getD i [] = (enc (l.getD i default)).map AV.v := by
    simp [rowsE, List.getD_eq_getElem?_getD, hi]
  have hl : j < (enc (l.getD i default)).length := by rw [hk]; exact hj
  rw [e3]
  generalize enc (l.getD i default) = E at *
  simp [av, cv, List.getD_eq_getElem?_getD, List.getElem?_eq_getElem hl]
include hk h0 in
theorem fits_rowsE {st : Nat → Prop} {w : World} {l : List α} {e : TypeId} {c : Value} {xs : List Value} (h : RowFits st w (rowsE enc l) sz e c xs) : xs = flatE enc sz l := by
  have hlen : xs.length = l.length * sz := by rw [h.row.len, rowsE_len]
  apply List.ext_getElem (by rw [flatE_len]; exact hlen)
  intro j h1 h2
  have hjm : j % sz < sz := Nat.mod_lt _ h0
  have hjd : j / sz < l.length := div_in h0 (by omega)
  have hjj : j / sz * sz + j % sz = j := by rw [Nat.mul_comm]; exact Nat.div_add_mod j sz
  have h3 := h.cell (j / sz) (j % sz) (by rw [rowsE_len]; exact hjd) hjm
  rw [rowsE_cell enc sz hk l (j / sz) (j % sz) hjd hjm, hjj] at h3
  have e1 : cv xs j = xs[j] := by simp [cv, List.getD_eq_getElem?_getD, List.getElem?_eq_getElem h1]
  have e2 : (flatE enc sz l)[j] = pcE enc sz l j := by simp [flatE]
  rw [e2, ← e1]
  generalize cv xs j = q at h3 ⊢
  cases h3
  rfl
include hk h1 h0 in
theorem pcE_one (l : List α) (j : Nat) : (pcE enc sz l j).oneCell' = true := by
  unfold pcE
  refine h1 (l.getD (j / sz) default) _ ?_
  have hl : j % sz < (enc (l.getD (j / sz) default)).length := by rw [hk]; exact Nat.mod_lt _ h0
  generalize enc (l.getD (j / sz) default) = E at *
  simp [cv, List.getD_eq_getElem?_getD, List.getElem?_eq_getElem hl]
include hk h1 h0 in
theorem rowsE_fits {st : Nat → Prop} {w : World} {l : List α} {e : TypeId} {c : Value} (h : RowRep w e sz c l.length (flatE enc sz l)) : RowFits st w (rowsE enc l) sz e c (flatE enc sz l) := by
  refine ⟨by intro y hy; obtain ⟨x, _, rfl⟩ := List.mem_map.1 hy; simp [hk], h0, by rw [rowsE_len]; exact h, fun x hx => ?_, fun i j hi hj => ?_⟩
  · obtain ⟨j, _, rfl⟩ := List.mem_map.1 hx
    exact pcE_one enc sz hk h1 h0 l j
  · rw [rowsE_len] at hi
    have hin : i * sz + j < l.length * sz := mul_in hi hj
    rw [rowsE_cell enc sz hk l i j hi hj, flatE_get enc sz l (i * sz + j) hin]
    exact .v _
def sortE (cf : α → α → Int) (l : List α) : List α := (pdq (ltOf cf) l.toArray 0 l.toArray.size (Lib.bitLen l.toArray.size) true true).toList
theorem sortE_spec (cf : α → α → Int) (hO : SWO (ltOf cf)) (l : List α) : (sortE cf l).Perm l ∧ (sortE cf l).Pairwise fun x y => ltOf cf y x = false := by
  have h := pdq_sorts (ltOf cf) hO l.toArray 0 l.toArray.size (Lib.bitLen l.toArray.size) true true (Nat.zero_le _) (Nat.le_refl _) (Or.inl rfl)
  obtain ⟨⟨h1, _, h2⟩, h3⟩ := h
  unfold sortE
  generalize pdq (ltOf cf) l.toArray 0 l.toArray.size (Lib.bitLen l.toArray.size) true true = d at *
  have e1 : (d.extract 0 l.toArray.size).toList = d.toList := by rw [← h1]; simp
  have e2 : (l.toArray.extract 0 l.toArray.size).toList = l := by simp
  rw [e1, e2] at h2
  refine ⟨h2, List.pairwise_iff_getElem.2 fun i j hi hj hij => ?_⟩
  have := h3 i j (Nat.zero_le _) hij (by rw [← h1]; simpa using hj)
  rw [getElem!_pos d j (by simpa using hj), getElem!_pos d i (by simpa using hi)] at this
  simpa using this
theorem sortE_len (cf : α → α → Int) (hO : SWO (ltOf cf)) (l : List α) : (sortE cf l).length = l.length := (sortE_spec cf hO l).1.length_eq
include hk h0 in
theorem flatK_getE (l : List α) (j : Nat) (h : j < l.length * sz) : (flatK enc sz l.toArray)[j]! = pcE enc sz l j := by
  rw [get_flatK enc sz l.toArray j (by simpa using h)]
  have hi : j / sz < l.length := div_in h0 h
  have e1 : l.toArray[j / sz]! = l.getD (j / sz) default := by
    rw [getElem!_pos l.toArray _ (by simpa using hi)]
    simp [List.getD_eq_getElem?_getD, hi]
  rw [e1]
  unfold pcE
  have hl : j % sz < (enc (l.getD (j / sz) default)).length := by rw [hk]; exact Nat.mod_lt _ h0
  generalize enc (l.getD (j / sz) default) = E at *
  rw [getElem!_pos E _ hl]
  simp [cv, List.getD_eq_getElem?_getD, List.getElem?_eq_getElem hl]
include hk h1 h0 in
theorem sortE_cc {P : Program} {ρ : Ren} (L : SlLaysF0.n6 P ρ) (aE : ∀ w, (isAgg (ρ.t 24)).run P w = .ok true w) (zE : ∀ w, (Go.sizeOf (ρ.t 24)).run P w = .ok sz w) (hcall : Callable P (ρ.f 6)) (cf : α → α → Int) (hO : SWO (ltOf cf)) (g : Nat)
    (eg : ∀ args w, (callFunc g args).run P w = .ok (.enter g args) w)
    (hcmp : ∀ blk off n w, CmpLays P g #[] enc sz cf blk off n w)
    (l t : List α) (b nm : Nat) (e : TypeId) (hl : l.length < 1000000) : CallC P (ρ.f 6) [.pre b l.length, .fn g []] [(b, .row (rowsE enc (l ++ t)) sz e)] nm (.tup []) [(b, some (.row (rowsE enc (sortE cf l ++ t)) sz e))] := by
  refine ⟨hcall, fun prov β w cs hn hb hi hv => ?_⟩
  have hlk : ∀ n, updL (listH [(b, Blk.row (rowsE enc (l ++ t)) sz e)]) [(b, some (Blk.row (rowsE enc (sortE cf l ++ t)) sz e))] n = if n = b then some (.row (rowsE enc (sortE cf l ++ t)) sz e) else none := by
    intro n; simp only [updL, upd, listH]; split <;> simp
  have hB := hb b (.row (rowsE enc (l ++ t)) sz e) (by simp [listH])
  obtain ⟨xs, hf⟩ := hB
  obtain rfl := fits_rowsE enc sz hk h0 hf
  obtain ⟨hlen, hv⟩ := hv
  match cs, hlen with
  | [c, c2], _ =>
  have g1 := hv 0 (by simp)
  have g2 := hv 1 (by simp)
  simp only [av_zero, cv, List.getD_cons_zero] at g1
  obtain ⟨ad, n, cap, cap', hβ, rfl, hkc, hm⟩ := g1.pre_inv
  obtain ⟨ys, hc2, hy, _⟩ := SimV.fn_inv (f := g) (cs := []) g2
  have hys : ys = [] := List.eq_nil_of_length_eq_zero (by simpa using hy.symm)
  subst hys
  have hc2 : c2 = .func (.func g) #[] #[] := hc2
  subst hc2
  have hsl := sortE_len cf hO l
  have tail : ∀ w', w.grownBy w' (blkOf (β b)) → RowRep w' e sz (β b) (sortE cf l ++ t).length (flatE enc sz (sortE cf l ++ t)) →
      ∃ c β', Ending.returned (Value.tuple #[]) = .returned c ∧ w'.os = w.os ∧ w'.tape = w.tape ∧ w'.output = w.output ∧ w.heap.size ≤ w'.heap.size ∧ Grows β β' ∧ (∀ n, n ≠ nm → β' n = β n) ∧
      (∀ g, g < w.heap.size → (∀ n b', listH [(b, Blk.row (rowsE enc (l ++ t)) sz e)] n = some b' → n ∈ [(b, some (Blk.row (rowsE enc (sortE cf l ++ t)) sz e))].map (·.1) → blkOf (β n) ≠ some g) → w'.heap[g]? = w.heap[g]?) ∧
      SimV (stb (fun g => prov g ∨ w.heap.size ≤ g) w' β' (updL (listH [(b, Blk.row (rowsE enc (l ++ t)) sz e)]) [(b, some (Blk.row (rowsE enc (sortE cf l ++ t)) sz e))])) β' w' (.tup []) c ∧
      (∀ n b', updL (listH [(b, Blk.row (rowsE enc (l ++ t)) sz e)]) [(b, some (Blk.row (rowsE enc (sortE cf l ++ t)) sz e))] n = some b' → n ∈ [(b, some (Blk.row (rowsE enc (sortE cf l ++ t)) sz e))].map (·.1) → BlkRep (stb (fun g => prov g ∨ w.heap.size ≤ g) w' β' (updL (listH [(b, Blk.row (rowsE enc (l ++ t)) sz e)]) [(b, some (Blk.row (rowsE enc (sortE cf l ++ t)) sz e))])) β' w' b' (β' n) ∧
        ∀ g, blkOf (β' n) = some g → w.heap.size ≤ g ∨ ∃ m b', listH [(b, Blk.row (rowsE enc (l ++ t)) sz e)] m = some b' ∧ m ∈ [(b, some (Blk.row (rowsE enc (sortE cf l ++ t)) sz e))].map (·.1) ∧ blkOf (β m) = some g) ∧
      Inj β' (updL (listH [(b, Blk.row (rowsE enc (l ++ t)) sz e)]) [(b, some (Blk.row (rowsE enc (sortE cf l ++ t)) sz e))]) := by
    intro w' hg hr
    refine ⟨_, β, rfl, hg.os, hg.tape, hg.output, hg.size, Grows.refl _, fun _ _ => rfl, fun g hgl hno => ?_, .pure (.tup [] [] rfl (fun j hj => by simp at hj)), fun n b' hb' _ => ?_, ?_⟩
    · exact hg.block g hgl (fun e' => hno b (.row (rowsE enc (l ++ t)) sz e) (by simp [listH]) (by simp) e'.symm)
    · rw [hlk] at hb'
      split at hb'
      · rename_i hnb; subst hnb
        simp at hb'; subst hb'
        exact ⟨⟨_, rowsE_fits enc sz hk h1 h0 hr⟩, fun g hgb => .inr ⟨n, .row (rowsE enc (l ++ t)) sz e, by simp [listH], by simp, hgb⟩⟩
      · cases hb'
    · intro n m b1 b2 g h1 h2 _ _
      rw [hlk] at h1 h2
      split at h1
      · split at h2
        · simp_all
        · cases h2
      · cases h1
  rw [hβ] at hf
  obtain ⟨hnl, hnc, hcm, hpos⟩ := row_cap hf
  rw [rowsE_len] at hnl
  by_cases hl0 : l = []
  · subst hl0
    have hs0 : sortE cf [] = [] := List.eq_nil_of_length_eq_zero hsl
    refine (AnyF.slices_SortFunc_none L ad cap' (.func (.func g) #[] #[]) w).mono fun e' w' ⟨he, hw⟩ => ?_
    subst he; subst hw
    refine tail w' ⟨rfl, rfl, rfl, Nat.le_refl _, fun _ _ _ => rfl⟩ ?_
    rw [hs0]
    have := hf.row
    rw [rowsE_len] at this
    rw [hβ]
    exact this
  · have hlp : 0 < l.length := List.length_pos_iff.2 hl0
    obtain ⟨gb, cur, rfl, hg, hcur, htk⟩ := hpos (by rw [hnl]; simp; omega)
    have hlt : gb < w.heap.size := (Array.getElem?_eq_some_iff.1 hg).1
    rw [rowsE_len] at htk
    have hla : (l ++ t).length = l.length + t.length := by simp
    have hcs : (l ++ t).length * sz ≤ cur.size := by rw [hcur]; exact Nat.mul_le_mul_right _ (by omega)
    have hcell : ∀ j, j < (l ++ t).length * sz → cur[j]? = some (pcE enc sz (l ++ t) j) := by
      intro j hj
      have h3 : (cur.toList.take ((l ++ t).length * sz))[j]? = (flatE enc sz (l ++ t))[j]? := by rw [htk]
      rw [List.getElem?_take_of_lt hj] at h3
      rw [← Array.getElem?_toList, h3]
      unfold flatE
      rw [List.getElem?_map, List.getElem?_range hj]
      rfl
    have pl : ∀ j, j < l.length * sz → pcE enc sz (l ++ t) j = pcE enc sz l j := by
      intro j hj
      unfold pcE
      have : (l ++ t).getD (j / sz) default = l.getD (j / sz) default := by
        simp only [List.getD_eq_getElem?_getD]
        rw [List.getElem?_append_left (div_in h0 hj)]
      rw [this]
    have pr : ∀ j, l.length * sz ≤ j → pcE enc sz (sortE cf l ++ t) j = pcE enc sz (l ++ t) j := by
      intro j hj
      unfold pcE
      have : (sortE cf l ++ t).getD (j / sz) default = (l ++ t).getD (j / sz) default := by
        simp only [List.getD_eq_getElem?_getD]
        have hd : l.length ≤ j / sz := (Nat.le_div_iff_mul_le h0).2 hj
        rw [List.getElem?_append_right (by omega), List.getElem?_append_right (by omega), hsl]
      rw [this]
    have pl2 : ∀ j, j < l.length * sz → pcE enc sz (sortE cf l ++ t) j = pcE enc sz (sortE cf l) j := by
      intro j hj
      unfold pcE
      have : (sortE cf l ++ t).getD (j / sz) default = (sortE cf l).getD (j / sz) default := by
        simp only [List.getD_eq_getElem?_getD]
        rw [List.getElem?_append_left (by rw [hsl]; exact div_in h0 hj)]
      rw [this]
    have hH : HoldsK enc sz w gb 0 l.toArray := by
      intro j hj
      rw [size_flatK] at hj
      have hj : j < l.length * sz := by simpa using hj
      refine ⟨?_, by simp [World.frozen?, hg]⟩
      rw [flatK_getE enc sz hk h0 l j hj]
      simp only [World.cell?, hg, Nat.zero_add, Option.isSome_none, Bool.false_eq_true, if_false, id]
      have hmul : l.length * sz ≤ (l ++ t).length * sz := Nat.mul_le_mul_right _ (by simp)
      rw [hcell j (by omega), pl j hj]
    have key := AnyQ.slices_SortFunc_eq L sz aE zE enc hk h1 cf hO g #[] gb 0 cap' l.toArray w eg (hcmp _ _ _ _) hH hlt (by simp; omega)
    have es : l.toArray.size = l.length := by simp
    rw [es] at key
    refine key.mono fun e' w' ⟨he, q, os, hw⟩ => ?_
    subst he
    have hsp : (pdq (ltOf cf) l.toArray 0 l.length (Lib.bitLen l.length) true true) = (sortE cf l).toArray := by unfold sortE; simp
    rw [hsp] at hw
    subst hw
    have hbk : blkOf (β b) = some gb := by rw [hβ]; simp [blkOf]; omega
    refine tail _ ?_ ?_
    · rw [hbk]; exact grownBy_sortP _
    · have hla2 : (sortE cf l ++ t).length = n := by simp [hsl]; omega
      rw [hβ, hla2]
      refine .inr ⟨gb, cap, rfl, by omega, by rw [flatE_len, hla2], .inr ⟨gb, cap, _, rfl, Nat.zero_le _, heap_sortP _ hg, hnc, hcm, by simp [putCells, hcur], ?_⟩⟩
      apply List.ext_getElem?
      intro j
      by_cases hj : j < n * sz
      · rw [List.getElem?_take_of_lt hj, Array.getElem?_toList]
        have e1 : (flatE enc sz (sortE cf l ++ t))[j]? = some (pcE enc sz (sortE cf l ++ t) j) := by
          unfold flatE
          rw [List.getElem?_map, List.getElem?_range (by rw [hla2]; exact hj)]
          rfl
        rw [e1]
        simp only [putCells, Array.getElem?_mapIdx, size_flatK, List.size_toArray, hsl, Nat.zero_le, Nat.zero_add, true_and, Nat.sub_zero, id]
        rw [hcell j (by rw [← hnl]; exact hj)]
        simp only [Option.map_some]
        by_cases h3 : j < l.length * sz
        · rw [if_pos h3, flatK_getE enc sz hk h0 _ j (by rw [hsl]; exact h3), pl2 j h3]
        · rw [if_neg h3, pr j (by omega)]
      · rw [List.getElem?_take_eq_none (by omega), List.getElem?_eq_none (by rw [flatE_len, hla2]; omega)]
end
end Go.Ab
end
section
set_option linter.unusedVariables false
set_option linter.unusedSimpArgs false
namespace Go.Ab
open Go.Shelf Go.RowKit Go.Lib Go.Proofs
variable {P : Program} {ρ : Ren}

set_option maxHeartbeats 2000000 in
set_option maxRecDepth 100000 in
theorem clone_zero (L : SlLaysE0.n41 P ρ) (i0 : TypeInfo) (z : Value) (size bytes : Nat) (hi : P.info? (ρ.t 23) = some i0) (hz0 : i0.zero = some z) (hz1 : i0.size = size) (hz2 : i0.bytes = bytes) (hzs : z.cells.size = size) (hsz : 0 < size)
    (z23 : ∀ w, (Go.sizeOf (ρ.t 23)).run P w = .ok size w) (a : Addr) (c : Nat) (w : World) :
    Calls P (ρ.f 41) #[.slice (some a) 0 c] w fun e w' => ∃ v', e = .returned v' ∧ w'.ownsRow w.heap.size (ρ.t 23) size v' 0 [] ∧ Below w.heap.size w w' := by
  have mixed := L.mixed; have t4 := L.t4; have a4 := L.a4; have z4 := L.z4; have v4 := L.v4; have t22 := L.t22; have a22 := L.a22; have z22 := L.z22; have v22 := L.v22
  have q22 : ∀ (w : World) (a : Option Addr) (n c n' c' : Nat), (binOp .eql (ρ.t 22) (.slice a n c) (.slice none n' c')).run P w = .ok (.bool a.isNone) w := fun w a n c n' c' => Lib.run_eql_slice_nil w _ _ a n c n' c' L.t22
  have u22 : ∀ w, Sem.run P (underlying (ρ.t 22)) w = .ok (TypeDesc.slice (ρ.t 23)) w := run_underlying t22
  obtain ⟨_, _, FG⟩ := L.f41
  go_enter FG, SlBodyN.n41_ntmps ρ
  go_wp2_with (at_builtin; refine wpList_append_own _ rfl _ _ (ρ.t 22) rfl w.heap.size (ρ.t 23) i0 z size bytes t22 hi hz0 hz1 hz2 hzs hsz _ _ _ rfl (World.ownsRow_made w #[] 0 (Nat.le_refl _) (Nat.zero_le _) (by simp)) a 0 c [] rfl ?qc1 ?qc2 ?qc3 ?qc4 ?qc5 ?qc6 ?_)
  case qc1 => simp
  case qc2 => intro j u hj; simp at hj
  case qc3 => intro u hu; cases hu
  case qc4 => unfold maxLen; omega
  case qc5 => omega
  case qc6 => simp
  intro v' w1 hown hgrow hnil
  go_wp2
  go_ret
  refine ⟨v', rfl, by simpa using hown, ?_⟩
  exact ((Below.refl _ w).alloc (Nat.le_refl _) _).grown hgrow (by simp) (by intro k hk; simp [Value.ownBlock] at hk; omega)

theorem getD_flat (es : List (List AV)) (f : Nat → Nat → Value) (sz n : Nat) (hn : n = es.length) (i j : Nat) (hi : i < n) (hj : j < sz) :
    cv ((List.range (n * sz)).map fun k => f (k / sz) (k % sz)) (i * sz + j) = f i j := by
  have h1 : i * sz + j < n * sz := by
    calc i * sz + j < i * sz + sz := by omega
      _ = (i + 1) * sz := by rw [Nat.add_mul]; omega
      _ ≤ n * sz := Nat.mul_le_mul_right _ (by omega)
  have h2 : (i * sz + j) / sz = i := by rw [Nat.add_comm, Nat.add_mul_div_right _ _ (by omega), Nat.div_eq_of_lt hj, Nat.zero_add]
  have h3 : (i * sz + j) % sz = j := by rw [Nat.add_comm, Nat.add_mul_mod_self_right, Nat.mod_eq_of_lt hj]
  simp [cv, List.getD_eq_getElem?_getD, h1, h2, h3]

theorem clone_of (L : SlLaysE0.n41 P ρ) (hcall : Callable P (ρ.f 41)) (i0 : TypeInfo) (z : Value) (size bytes : Nat) (hi : P.info? (ρ.t 23) = some i0) (hz0 : i0.zero = some z) (hz1 : i0.size = size) (hz2 : i0.bytes = bytes) (hzs : z.cells.size = size) (hsz : 0 < size)
    (z23 : ∀ w, (Go.sizeOf (ρ.t 23)).run P w = .ok size w) (es : List (List AV)) (hes : ∀ x ∈ es, x.length = size) (hbig : es.length * bytes ≤ 140737488355328) : PureOwn P (ρ.f 41) [.sl es] es size (ρ.t 23) := by
  refine ⟨hcall, fun ok w cs ⟨hlen, hv⟩ => ?_⟩
  match cs, hlen with
  | [c], _ =>
  have h1 := hv 0 (by simp)
  simp only [av_zero, cv, List.getD_cons_zero] at h1
  have tail : ∀ w' v' news, w'.ownsRow w.heap.size (ρ.t 23) size v' es.length news → Below w.heap.size w w' → (∀ u ∈ news, u.oneCell' = true) → (∀ i j, i < es.length → j < size → PureV (fun g => g < w.heap.size ∧ ok g) w (av (es.getD i []) j) (cv news (i * size + j))) →
      ∃ c, Ending.returned v' = .returned c ∧ Keeps w w' ∧ (∃ a n cap, c = .slice a n cap) ∧ (∃ xs, RowFits (fun g => g < w'.heap.size ∧ (ok g ∨ w.heap.size ≤ g) ∧ blkOf c ≠ some g) w' es size (ρ.t 23) c xs) ∧ ∀ g, blkOf c = some g → w.heap.size ≤ g := by
    intro w' v' news ho hb hone hp
    have hblk : ∀ g, blkOf v' = some g → w.heap.size ≤ g := by
      intro g hg
      rcases ho.2 with ⟨h, _⟩ | ⟨g', cap, cur, h, hge, _⟩
      · rw [h] at hg; simp [blkOf] at hg
      · rw [h] at hg
        simp only [blkOf] at hg
        split at hg
        · cases hg
        · simp only [Option.some.injEq] at hg; omega
    refine ⟨v', rfl, ⟨hb.os, hb.tape, hb.output, hb.size, hb.block⟩, ?_, ⟨news, hes, hsz, RowRep.of_owns ho, hone, fun i j hi hj => (hp i j hi hj).mono fun g hg => ⟨⟨Nat.lt_of_lt_of_le hg.1 hb.size, .inl hg.2, fun e => ?_⟩, hb.block g hg.1⟩⟩, hblk⟩
    · rcases ho.2 with ⟨h, _⟩ | ⟨g, cap, cur, h, _⟩
      · exact ⟨_, _, _, h⟩
      · exact ⟨_, _, _, h⟩
    · have := hblk g e; omega
  cases h1 with
  | slE a cap hc =>
    cases a with
    | none =>
      refine (AnyE.slices_Clone_nil L 0 cap w).mono fun e w' ⟨he, hw⟩ => ?_
      subst he; subst hw
      exact tail w' _ [] ⟨by simp, .inl ⟨rfl, rfl⟩⟩ (Below.refl _ _) (by simp) (fun i j hi => by simp at hi)
    | some a =>
      refine (clone_zero L i0 z size bytes hi hz0 hz1 hz2 hzs hsz z23 a cap w).mono fun e w' ⟨v', he, ho, hb⟩ => ?_
      subst he
      exact tail w' v' [] ho hb (by simp) (fun i j hi => by simp at hi)
  | slC _ g off cap sz f hc hm h0 hne hz hst hcell hr =>
    have hsz' : sz = size := by
      obtain ⟨x, hx⟩ := List.exists_mem_of_ne_nil _ hne
      exact (hz x hx).symm.trans (hes x hx)
    subst hsz'
    have hat := getD_flat es f sz es.length rfl
    have dm : ∀ k, k < es.length * sz → k / sz < es.length ∧ k % sz < sz := fun k hk => ⟨(Nat.div_lt_iff_lt_mul hsz).2 hk, Nat.mod_lt _ hsz⟩
    refine (AnyE.slices_Clone L i0 z sz bytes hi hz0 hz1 hz2 hzs hsz z23 g off es.length cap ((List.range (es.length * sz)).map fun k => f (k / sz) (k % sz)) w (by simp) (by omega) hbig (fun j u hj => ?_) (fun u hu => ?_)).mono fun e w' ⟨v', he, ho, _, hb⟩ => ?_
    · rw [List.getElem?_map] at hj
      by_cases hjl : j < es.length * sz
      · rw [List.getElem?_range hjl] at hj
        simp only [Option.map_some, Option.some.injEq] at hj
        subst hj
        obtain ⟨d1, d2⟩ := dm j hjl
        have := (hcell (j / sz) (j % sz) d1 d2).1
        rwa [show j / sz * sz + j % sz = j by rw [Nat.mul_comm]; exact Nat.div_add_mod j sz] at this
      · rw [List.getElem?_eq_none (by simpa using hjl)] at hj
        simp at hj
    · simp only [List.mem_map, List.mem_range] at hu
      obtain ⟨k, hk, rfl⟩ := hu
      obtain ⟨d1, d2⟩ := dm k hk
      exact (hcell _ _ d1 d2).2
    · subst he
      refine tail w' v' _ ho hb (fun u hu => ?_) (fun i j hi hj => ?_)
      · simp only [List.mem_map, List.mem_range] at hu
        obtain ⟨k, hk, rfl⟩ := hu
        obtain ⟨d1, d2⟩ := dm k hk
        exact (hcell _ _ d1 d2).2
      · rw [hat i j hi hj]
        exact hr i j hi hj
end Go.Ab
end
section
set_option linter.unusedVariables false
set_option linter.unusedSimpArgs false
namespace Go.Proofs
open Go Go.Ab Go.Shelf Go.RowKit Go.Lib Go.Sort
set_option maxRecDepth 100000
set_option linter.unusedSimpArgs false
set_option linter.unusedVariables false
theorem ltA (x y : Int × Int) : ltOf (fun x y : Int × Int => Lib.compareInt x.1 y.1) x y = decide (x.1 < y.1) := by
  unfold ltOf Lib.compareInt
  by_cases h1 : x.1 < y.1
  · simp [h1]
  · by_cases h2 : y.1 < x.1 <;> simp [h1, h2]
theorem swoA : SWO (ltOf fun x y : Int × Int => Lib.compareInt x.1 y.1) where
  irrefl x := by rw [ltA]; simp
  trans x y z h1 h2 := by rw [ltA] at *; simp at *; omega
  ntrans x y z h1 h2 := by rw [ltA] at *; simp at *; omega
set_option maxHeartbeats 1000000 in
theorem closure36 (x y : Int × Int) (W : World) : Calls Try.prog 80 #[.agg #[.int .i64 x.1, .int .i64 x.2], .agg #[.int .i64 y.1, .int .i64 y.2]] W fun e w' => e = .returned (.int .i64 (Lib.compareInt x.1 y.1)) ∧ ∃ q os', w' = grow (W.drewN q) os' := by
  have hcon := fun W' => AnyG.cmp_Compare_int Try.cmpInt x.1 y.1 W'
  change ∀ W', Calls Try.prog 81 _ _ _ at hcon
  generalize Lib.compareInt x.1 y.1 = r at hcon ⊢
  go_enter Try.func80, Try.ntmps80
  go_wp2_with (go_at_call 81; refine (hcon _).mono ?_; rintro e w' ⟨rfl, rfl⟩)
  go_ret
  exact ⟨rfl, 0, _, by rw [alloc_eq_grow, alloc_eq_grow, grow_grow]; rfl⟩
def toP (s : Sp) : Int × Int := (s.a, s.b)
def ofP (p : Int × Int) : Sp := ⟨p.1, p.2⟩
theorem prs_to (l : List Sp) : prs (l.map toP) = sps l := by simp [prs, sps, toP, Sp.cells]
theorem prs_of (l : List (Int × Int)) : prs l = sps (l.map ofP) := by simp [prs, sps, ofP, Sp.cells]
theorem of_to (l : List Sp) : (l.map toP).map ofP = l := by
  rw [List.map_map]
  have : ofP ∘ toP = id := by funext s; rfl
  rw [this, List.map_id]
theorem sort35_cc (l t : List Sp) (hl : l.length < 1000000) : ∃ m : List Sp, (∀ x, x ∈ m ↔ x ∈ l) ∧ m.length = l.length ∧ m.Pairwise (fun x y => x.a ≤ y.a) ∧
    ∀ b nm, CallC Try.prog 79 [.pre b m.length, .fn 80 []] [(b, .row (sps (l ++ t)) 2 37)] nm (.tup []) [(b, some (.row (sps (m ++ t)) 2 37))] := by
  have hs := sortP_spec (fun x y => Lib.compareInt x.1 y.1) swoA (l.map toP)
  have hlen := sortP_len (fun x y => Lib.compareInt x.1 y.1) swoA (l.map toP)
  have key := fun b nm => sortF_cc Try.sortIv (fun w => Try.isAgg37 w) (fun w => Try.sizeOf37 w) ⟨_, Try.func79, by kernel_rfl, by kernel_rfl⟩ (fun x y => Lib.compareInt x.1 y.1) swoA 80 (enters_of Try.func80 (by kernel_rfl) rfl) closure36 (l.map toP) (t.map toP) b nm 37 (by simpa using hl)
  refine ⟨(sortP (fun x y => Lib.compareInt x.1 y.1) (l.map toP)).map ofP, fun x => ?_, by simpa using hlen, ?_, fun b nm => ?_⟩
  · rw [List.mem_map]
    constructor
    · rintro ⟨p, hp, rfl⟩
      have := hs.1.mem_iff.1 hp
      obtain ⟨s, hs', rfl⟩ := List.mem_map.1 this
      exact hs'
    · intro hx
      exact ⟨toP x, hs.1.mem_iff.2 (List.mem_map.2 ⟨x, hx, rfl⟩), rfl⟩
  · rw [List.pairwise_map]
    refine hs.2.imp fun {x y} h => ?_
    rw [ltA] at h
    have := of_decide_eq_false h
    show x.1 ≤ y.1
    omega
  · have h := key b nm
    rw [prs_append, prs_to, prs_to, prs_append, prs_of, prs_to] at h
    rw [sps_append l t, sps_append _ t]
    have e1 : ((sortP (fun x y => Lib.compareInt x.1 y.1) (l.map toP)).map ofP).length = (l.map toP).length := by simpa using hlen
    rw [e1]
    exact h
theorem clone33 (l : List Sp) (hl : l.length < 1000000) : PureOwn Try.prog 77 [.sl (sps l)] (sps l) 2 37 := by
  have h := clone_of Try.cloneSp ⟨_, Try.func77, by kernel_rfl, by kernel_rfl⟩ _ _ 2 16 (show Try.prog.info? (Try.cloneSp_ren.t 23) = some _ from rfl) rfl rfl rfl rfl (by omega) (fun w => Try.sizeOf37 w) (sps l) (sps_one l) (by rw [sps_len]; omega)
  exact h
end Go.Proofs
end
section
set_option linter.unusedVariables false
set_option linter.unusedSimpArgs false
namespace Go.Proofs
open Go Go.Ab
set_option maxHeartbeats 4000000
set_option maxRecDepth 100000
set_option linter.unusedSimpArgs false
set_option linter.unusedVariables false
attribute [local irreducible] Awp aops aopsL Go.Ab.Pure PureOwn
theorem take_snocP (l : List Sp) (i : Nat) (h : i < l.length) : l.take (i + 1) = l.take i ++ [l.getD i zeroSp] := by
  rw [List.take_add_one, List.getElem?_eq_getElem h]
  simp [List.getD_eq_getElem?_getD, h]
theorem drop_consP (l : List Sp) (j : Nat) (h : j < l.length) : l.drop j = l.getD j zeroSp :: l.drop (j + 1) := by
  rw [List.drop_eq_getElem_cons h]
  simp [List.getD_eq_getElem?_getD, h]
theorem sps_store {L : List Sp} {i : Nat} {x : Sp} (h : i < L.length) : (sps L).set i (splice ((sps L).getD i []) 0 [.v (.int .i64 x.a), .v (.int .i64 x.b)]) = sps (L.set i x) := by
  rw [sps_at _ _ h, ← sps_set]
  rfl
theorem sps_store1 {L : List Sp} {i : Nat} {v : Int} (h : i < L.length) : (sps L).set i (splice ((sps L).getD i []) 1 [.v (.int .i64 v)]) = sps (L.set i ⟨(L.getD i zeroSp).a, v⟩) := by
  rw [sps_at _ _ h, ← sps_set]
  rfl
def farB (s : Sp) : Bool := decide (s.a < -1099511627776) || decide (1099511627776 < s.a) || decide (s.b < -1099511627776) || decide (1099511627776 < s.b)
def nearB (l : List Sp) : Bool := l.all fun s => !farB s
end Go.Proofs
end
section
set_option linter.unusedVariables false
set_option linter.unusedSimpArgs false
namespace Go.Proofs
open Go Go.Ab
set_option maxHeartbeats 4000000
set_option maxRecDepth 100000
set_option linter.unusedSimpArgs false
set_option linter.unusedVariables false
attribute [local irreducible] Awp aops aopsL Go.Ab.Pure PureOwn
/-- A fact that simp leaves alone. -/
def Kept (p : Prop) : Prop := p
theorem Kept.out {p : Prop} (h : Kept p) : p := h
theorem ins_at (s : Sp) : ∀ (l : List Sp) (k : Nat), k ≤ l.length → (∀ j, j < k → (l.getD j zeroSp).a < s.a) → (k < l.length → ¬ (l.getD k zeroSp).a < s.a) → insS s l = l.take k ++ s :: l.drop k
  | [], k, hk, _, _ => by simp [insS]
  | t :: l, 0, hk, _, h2 => by
    have := h2 (by simp)
    simp only [List.getD_cons_zero] at this
    unfold insS
    rw [if_neg this]
    rfl
  | t :: l, k + 1, hk, h1, h2 => by
    have h0 := h1 0 (by omega)
    simp only [List.getD_cons_zero] at h0
    unfold insS
    rw [if_pos h0, ins_at s l k (by simpa using hk) (fun j hj => by have := h1 (j + 1) (by omega); simpa using this) (fun hlt => by have := h2 (by simpa using hlt); simpa using this)]
    simp
def stepI (acc : List Sp) (s : Sp) : List Sp := if fullB s = true then insS s acc else acc
theorem stepI_spec : ∀ (l acc : List Sp), acc.Pairwise (fun x y => x.a ≤ y.a) → (l.foldl stepI acc).Pairwise (fun x y => x.a ≤ y.a) ∧ ∀ x, x ∈ l.foldl stepI acc ↔ x ∈ acc ∨ x ∈ l.filter fullB
  | [], acc, h => ⟨h, fun x => by simp⟩
  | s :: l, acc, h => by
    rw [List.foldl_cons]
    unfold stepI
    by_cases hf : fullB s = true
    · rw [if_pos hf]
      have k := stepI_spec l (insS s acc) (insS_asc s acc h)
      unfold stepI at k
      refine ⟨k.1, fun x => ?_⟩
      rw [k.2 x, mem_insS, List.filter_cons_of_pos hf, List.mem_cons]
      constructor
      · rintro ((h | h) | h)
        · exact .inr (.inl h)
        · exact .inl h
        · exact .inr (.inr h)
      · rintro (h | h | h)
        · exact .inl (.inr h)
        · exact .inl (.inl h)
        · exact .inr h
    · rw [if_neg hf]
      have k := stepI_spec l acc h
      unfold stepI at k
      refine ⟨k.1, fun x => ?_⟩
      rw [k.2 x, List.filter_cons_of_neg hf]
theorem stepI_len : ∀ (l acc : List Sp), (l.foldl stepI acc).length ≤ acc.length + l.length
  | [], acc => by simp
  | s :: l, acc => by
    have h1 := stepI_len l (stepI acc s)
    have h2 : (stepI acc s).length ≤ acc.length + 1 := by
      unfold stepI
      split
      · have : ∀ l : List Sp, (insS s l).length = l.length + 1 := by
          intro l
          induction l with
          | nil => rfl
          | cons t l ih => unfold insS; split <;> simp [ih]
        rw [this]; omega
      · omega
    rw [List.foldl_cons]
    simp only [List.length_cons]
    omega
def rinL (l : List Sp) : List Sp := l.foldl stepI []
theorem rin_canon (l : List Sp) : mergeS (rinL l) = canon l := by
  have h := stepI_spec l [] List.Pairwise.nil
  exact merge_canon h.1 fun s => by unfold rinL; rw [h.2 s]; simp
theorem rin_len (l : List Sp) : (rinL l).length ≤ l.length := by have := stepI_len l []; simpa [rinL] using this
theorem rin_step (l : List Sp) (i : Nat) (h : i < l.length) : rinL (l.take (i + 1)) = stepI (rinL (l.take i)) (l.getD i zeroSp) := by
  unfold rinL
  rw [take_snocP l i h, List.foldl_append]; rfl
theorem merge_stepL (l : List Sp) (i : Nat) (h : i < l.length) : mergeS (l.take (i + 1)) = stepM (mergeS (l.take i)) (l.getD i zeroSp) := by
  unfold mergeS
  rw [take_snocP l i h, List.foldl_append]; rfl
theorem merge_len (l : List Sp) : (mergeS l).length ≤ l.length := by have := foldM_len l []; simpa [mergeS] using this
def rnS (l : List Sp) (L : List Sp) (i : Nat) : AState := mkS [(0, .sl (sps l)), (3, .own 2), (4, .v (.int .i64 i))] [(2, .row (sps L) 2 37)]
def rkS (l : List Sp) (L : List Sp) (i k : Nat) : AState := mkS [(0, .sl (sps l)), (3, .own 2), (4, .v (.int .i64 i)), (5, .v (.int .i64 k))] [(2, .row (sps L) 2 37)]
def rjS (l : List Sp) (L : List Sp) (i k : Nat) (q : Nat × Sp) : AState := mkS [(0, .sl (sps l)), (3, .own 2), (4, .v (.int .i64 i)), (5, .v (.int .i64 k)), (6, .v (.int .i64 q.1))] [(2, .row (sps (L.take q.1 ++ q.2 :: L.drop q.1)) 2 37)]
def rmS (L M : List Sp) (i : Nat) : AState := mkS [(3, .own 2), (7, .own 3), (8, .v (.int .i64 i))] [(2, .row (sps L) 2 37), (3, .row (sps M) 2 37)]
end Go.Proofs
end
section
set_option linter.unusedVariables false
set_option linter.unusedSimpArgs false
namespace Go.Proofs
open Go Go.Ab Go.Shelf Go.RowKit Go.Lib Go.Sort
set_option maxRecDepth 100000
set_option linter.unusedSimpArgs false
set_option linter.unusedVariables false
theorem nan53 (s : ByteArray) (w : World) : Calls Try.prog 53 #[.string s] w fun e w' => e = .returned (.bool false) ∧ w' = w := by
  go_enter Try.func53, Try.ntmps53
  go_wp2
  go_ret
  exact ⟨by simp, rfl⟩
def cmpS (a b : ByteArray) : Int := if strLess a b then -1 else if strLess b a then 1 else 0
def gtS (a b : ByteArray) : Bool := !(strLess a b || a.toList == b.toList)
def cmpT (a b : ByteArray) : Int := if strLess a b then -1 else if gtS a b then 1 else 0
theorem gtr48 (a b : ByteArray) (w : World) : (Go.binOp .gtr 9 (.string a) (.string b)).run Try.prog w = .ok (.bool !(Op.bytesLess a.toList b.toList || a.toList == b.toList)) w := by
  simp [Go.binOp, Op.stringOp, go_sem]
set_option maxHeartbeats 1000000 in
theorem cmp48 (a b : ByteArray) (w : World) : Calls Try.prog 48 #[.string a, .string b] w fun e w' => e = .returned (.int .i64 (cmpT a b)) ∧ w' = w := by
  cases h : Op.bytesLess a.toList b.toList
  · cases h2 : (a.toList == b.toList)
    · have hgt := gtr48 a b
      rw [h, h2] at hgt
      have e1 : cmpT a b = 1 := by unfold cmpT gtS strLess; rw [h, h2]; rfl
      rw [e1]
      clear e1
      go_enter Try.func48, Try.ntmps48
      go_wp2_with (go_at_call 53; refine (nan53 _ _).mono ?_; rintro e w' ⟨rfl, hw⟩; rw [hw])
      go_ret
      exact ⟨rfl, rfl⟩
    · have hgt := gtr48 a b
      rw [h, h2] at hgt
      have e1 : cmpT a b = 0 := by unfold cmpT gtS strLess; rw [h, h2]; rfl
      rw [e1]
      clear e1
      go_enter Try.func48, Try.ntmps48
      go_wp2_with (go_at_call 53; refine (nan53 _ _).mono ?_; rintro e w' ⟨rfl, hw⟩; rw [hw])
      go_ret
      exact ⟨rfl, rfl⟩
  · have e1 : cmpT a b = -1 := by unfold cmpT strLess; rw [h]; rfl
    rw [e1]
    clear e1
    go_enter Try.func48, Try.ntmps48
    go_wp2_with (go_at_call 53; refine (nan53 _ _).mono ?_; rintro e w' ⟨rfl, hw⟩; rw [hw])
    go_ret
    exact ⟨rfl, rfl⟩
def orI (x y : Int) : Int := if x = 0 then y else x
set_option maxHeartbeats 4000000 in
theorem or47 (x y : Int) (b : Nat) (w : World) (h0 : w.cell? ⟨b, 0, none⟩ = some (.int .i64 x)) (h1 : w.cell? ⟨b, 1, none⟩ = some (.int .i64 y)) : Calls Try.prog 47 #[.slice (some ⟨b, 0, none⟩) 2 2] w fun e w' => e = .returned (.int .i64 (orI x y)) ∧ w' = w := by
  by_cases hx : x = 0
  · subst hx
    by_cases hy : y = 0
    · subst hy
      rw [show orI 0 0 = 0 from rfl]
      go_enter Try.func47, Try.ntmps47
      go_wp2
      refine wp_loop_rounds 3 ?_
      repeat any_goals (rw [rounds_succ]; go_wp2)
      go_ret
      exact ⟨rfl, rfl⟩
    · have hy' : (y == 0) = false := by simpa using hy
      have hy2 : (y != 0) = true := by simpa using hy
      rw [show orI 0 y = y from rfl]
      clear hy
      go_enter Try.func47, Try.ntmps47
      go_wp2
      refine wp_loop_rounds 3 ?_
      repeat any_goals (rw [rounds_succ]; go_wp2)
      go_ret
      exact ⟨rfl, rfl⟩
  · have hx' : (x == 0) = false := by simpa using hx
    have hx2 : (x != 0) = true := by simpa using hx
    rw [show orI x y = x from if_neg hx]
    clear hx
    go_enter Try.func47, Try.ntmps47
    go_wp2
    refine wp_loop_rounds 3 ?_
    repeat any_goals (rw [rounds_succ]; go_wp2)
    go_ret
    exact ⟨rfl, rfl⟩
set_option maxHeartbeats 8000000 in
theorem closure46 (p q : ByteArray) (a a' b b' : Int) (hw : IntKind.i64.wrap (a - b) = a - b) (W : World) : Calls Try.prog 46 #[.agg #[.string p, .int .i64 a, .int .i64 a'], .agg #[.string q, .int .i64 b, .int .i64 b']] W fun e w' => e = .returned (.int .i64 (orI (cmpT p q) (a - b))) ∧ ∃ q os', w' = grow (W.drewN q) os' := by
  have hcon := fun W' => cmp48 p q W'
  generalize cmpT p q = r at hcon ⊢
  go_enter Try.func46, Try.ntmps46
  go_wp2
  obtain ⟨w1, hw1⟩ : ∃ w1, w1 = (W.alloc (Obj.cells #[Value.string p, Value.int IntKind.i64 a, Value.int IntKind.i64 a'] 50)).alloc (Obj.cells #[Value.string q, Value.int IntKind.i64 b, Value.int IntKind.i64 b'] 50) := ⟨_, rfl⟩
  rw [← hw1]
  obtain ⟨w2, hw2⟩ : ∃ w2, w2 = w1.drew := ⟨_, rfl⟩
  have c0 : w2.cell? ⟨W.heap.size, 0, none⟩ = some (.string p) := by rw [hw2, hw1]; simp
  have c1 : w2.cell? ⟨W.heap.size, 1, none⟩ = some (.int .i64 a) := by rw [hw2, hw1]; simp
  have d0 : w2.cell? ⟨W.heap.size + 1, 0, none⟩ = some (.string q) := by rw [hw2, hw1]; simp
  have d1 : w2.cell? ⟨W.heap.size + 1, 1, none⟩ = some (.int .i64 b) := by rw [hw2, hw1]; simp
  have hfin : Kept (w2 = grow (W.drewN 1) #[Obj.cells #[Value.string p, Value.int IntKind.i64 a, Value.int IntKind.i64 a'] 50, Obj.cells #[Value.string q, Value.int IntKind.i64 b, Value.int IntKind.i64 b'] 50]) := by
    show w2 = _
    rw [hw2, hw1, alloc_eq_grow, alloc_eq_grow, grow_grow]; rfl
  refine wp_region_still_tail 10 (by kernel_rfl) (by kernel_rfl) ?_
  change wpStill _ _ w1.drew (fun a' => wpList _ _ _ _ a' w1.drew) _ _
  rw [← hw2]
  clear hw1 hw2
  simp only [List.take_succ_cons, List.take_zero, List.drop_succ_cons, List.drop_zero]
  still_step
  still_step
  still_step
  still_step
  still_call (hcon _)
  still_step
  still_step
  still_step
  still_step
  still_step
  refine wpStill_nil ?_
  go_wp2_with (go_at_call 47; refine (or47 r (a - b) _ _ (by simp) (by simp)).mono ?_; rintro e w' ⟨rfl, rfl⟩)
  go_ret
  have hf2 : w2 = grow (W.drewN 1) #[Obj.cells #[Value.string p, Value.int IntKind.i64 a, Value.int IntKind.i64 a'] 50, Obj.cells #[Value.string q, Value.int IntKind.i64 b, Value.int IntKind.i64 b'] 50] := hfin
  refine ⟨rfl, 1, #[Obj.cells #[Value.string p, Value.int IntKind.i64 a, Value.int IntKind.i64 a'] 50, Obj.cells #[Value.string q, Value.int IntKind.i64 b, Value.int IntKind.i64 b'] 50] ++ #[Obj.cells #[Value.int IntKind.i64 r, Value.int IntKind.i64 (a - b)] 3], ?_⟩
  rw [hf2, alloc_eq_grow, grow_grow]
end Go.Proofs
end
section
set_option linter.unusedVariables false
set_option linter.unusedSimpArgs false
namespace Go.Proofs
open Go Go.Ab
theorem strLess_iff (a b : ByteArray) : strLess a b = true ↔ a.toList < b.toList := by
  unfold strLess
  rw [bytesLess_eq]
  simp
theorem strLess_irrefl (a : ByteArray) : strLess a a = false := by
  rw [Bool.eq_false_iff]
  intro h
  rw [strLess_iff] at h
  exact List.lt_irrefl _ h
theorem strLess_trans {a b c : ByteArray} (h : strLess a b = true) (k : strLess b c = true) : strLess a c = true := by
  rw [strLess_iff] at *
  exact List.lt_trans h k
theorem strLess_tri (a b : ByteArray) (h : strLess a b = false) (k : strLess b a = false) : a.toList = b.toList := by
  rw [Bool.eq_false_iff] at h k
  rw [Ne, strLess_iff] at h k
  exact List.le_antisymm (List.not_lt.1 k) (List.not_lt.1 h)
/-- Two arrangements of the same things, each sorted by a strict order, are one. -/
theorem sorted_eq {α : Type} {r : α → α → Prop} (hi : ∀ x, ¬ r x x) (ht : ∀ x y z, r x y → r y z → r x z) : ∀ {l m : List α}, l.Perm m → l.Pairwise r → m.Pairwise r → l = m
  | [], m, h, _, _ => (List.nil_perm.1 h).symm
  | x :: l, [], h, _, _ => absurd h.symm (by simp)
  | x :: l, y :: m, h, hl, hm => by
    have e : x = y := by
      have h1 : x ∈ y :: m := h.mem_iff.1 (by simp)
      have h2 : y ∈ x :: l := h.mem_iff.2 (by simp)
      rcases List.mem_cons.1 h1 with e | h1
      · exact e
      · rcases List.mem_cons.1 h2 with e | h2
        · exact e.symm
        · exact absurd (ht _ _ _ ((List.pairwise_cons.1 hm).1 x h1) ((List.pairwise_cons.1 hl).1 y h2)) (hi y)
    subst e
    rw [sorted_eq hi ht ((List.perm_cons x).1 h) (List.pairwise_cons.1 hl).2 (List.pairwise_cons.1 hm).2]
end Go.Proofs
end
section
set_option linter.unusedVariables false
set_option linter.unusedSimpArgs false
namespace Go.Proofs
open Go Go.Ab Go.Shelf Go.RowKit Go.Lib Go.Sort
set_option maxRecDepth 100000
set_option linter.unusedSimpArgs false
set_option linter.unusedVariables false
def keyLt (x y : Sk) : Bool := strLess x.p y.p || ((x.p.toList == y.p.toList) && decide (x.a < y.a))
theorem keyLt_iff (x y : Sk) : keyLt x y = true ↔ x.p.toList < y.p.toList ∨ (x.p.toList = y.p.toList ∧ x.a < y.a) := by
  unfold keyLt
  rw [Bool.or_eq_true, strLess_iff, Bool.and_eq_true, beq_iff_eq, decide_eq_true_eq]
theorem lex_tri (l m : List UInt8) : l < m ∨ l = m ∨ m < l := by
  by_cases h : l < m
  · exact .inl h
  · by_cases k : m < l
    · exact .inr (.inr k)
    · exact .inr (.inl (List.le_antisymm (List.not_lt.1 k) (List.not_lt.1 h)))
theorem keyLt_irrefl (x : Sk) : ¬ keyLt x x = true := by
  rw [keyLt_iff]
  rintro (h | h)
  · exact List.lt_irrefl _ h
  · omega
theorem keyLt_trans (x y z : Sk) (h : keyLt x y = true) (k : keyLt y z = true) : keyLt x z = true := by
  rw [keyLt_iff] at *
  rcases h with h | h <;> rcases k with k | k
  · exact .inl (List.lt_trans h k)
  · exact .inl (by rw [← k.1]; exact h)
  · exact .inl (by rw [h.1]; exact k)
  · exact .inr ⟨h.1.trans k.1, by omega⟩
theorem keyLt_tri (x y : Sk) : keyLt x y = true ∨ (x.p.toList = y.p.toList ∧ x.a = y.a) ∨ keyLt y x = true := by
  rw [keyLt_iff, keyLt_iff]
  rcases lex_tri x.p.toList y.p.toList with h | h | h
  · exact .inl (.inl h)
  · rcases Int.lt_trichotomy x.a y.a with k | k | k
    · exact .inl (.inr ⟨h, k⟩)
    · exact .inr (.inl ⟨h, k⟩)
    · exact .inr (.inr (.inr ⟨h.symm, k⟩))
  · exact .inr (.inr (.inl h))
theorem keyLt_same {x y z : Sk} (h : x.p.toList = y.p.toList ∧ x.a = y.a) : keyLt x z = keyLt y z ∧ keyLt z x = keyLt z y := by
  constructor
  · rw [Bool.eq_iff_iff, keyLt_iff, keyLt_iff, h.1, h.2]
  · rw [Bool.eq_iff_iff, keyLt_iff, keyLt_iff, h.1, h.2]
theorem keyLt_ntrans (x y z : Sk) (h : keyLt x y = false) (k : keyLt y z = false) : keyLt x z = false := by
  rw [Bool.eq_false_iff] at *
  intro hxz
  rcases keyLt_tri x y with h1 | h1 | h1
  · exact h h1
  · rw [(keyLt_same h1).1] at hxz
    exact k hxz
  · exact k (keyLt_trans _ _ _ h1 hxz)
structure SkB where
  val : Sk
  ok : 0 ≤ val.a ∧ val.a ≤ 1048576
instance : Inhabited SkB := ⟨⟨zeroSk, by decide⟩⟩
def encSk (x : SkB) : List Value := [.string x.val.p, .int .i64 x.val.a, .int .i64 x.val.b]
def cfSk (x y : SkB) : Int := orI (cmpT x.val.p y.val.p) (x.val.a - y.val.a)
theorem ltSk (x y : SkB) : ltOf cfSk x y = keyLt x.val y.val := by
  unfold ltOf cfSk cmpT keyLt gtS
  cases h : strLess x.val.p y.val.p
  · cases h2 : (x.val.p.toList == y.val.p.toList)
    · simp [orI]
    · simp [orI]
      by_cases h3 : x.val.a < y.val.a
      · simp [h3]; omega
      · simp [h3]; omega
  · simp [orI]
theorem swoSk : SWO (ltOf cfSk) where
  irrefl x := by rw [ltSk, Bool.eq_false_iff]; exact keyLt_irrefl _
  trans x y z h1 h2 := by rw [ltSk] at *; exact keyLt_trans _ _ _ h1 h2
  ntrans x y z h1 h2 := by rw [ltSk] at *; exact keyLt_ntrans _ _ _ h1 h2
theorem cmpLays46 (blk off n : Nat) (w : World) : CmpLays Try.prog 46 #[] encSk 3 cfSk blk off n w :=
  fun _ _ _ _ x y => closure46 x.val.p y.val.p x.val.a x.val.b y.val.a y.val.b (wrap_i64 (by have := x.ok; have := y.ok; omega) (by have := x.ok; have := y.ok; omega)) _
def toSB (s : Sk) : SkB := if h : 0 ≤ s.a ∧ s.a ≤ 1048576 then ⟨s, h⟩ else default
theorem toSB_val {s : Sk} (h : 0 ≤ s.a ∧ s.a ≤ 1048576) : (toSB s).val = s := by
  unfold toSB
  rw [dif_pos h]
theorem mapSB {l : List Sk} (h : ∀ s ∈ l, 0 ≤ s.a ∧ s.a ≤ 1048576) : (l.map toSB).map SkB.val = l := by
  rw [List.map_map]
  have : ∀ s ∈ l, (SkB.val ∘ toSB) s = s := fun s hs => toSB_val (h s hs)
  rw [List.map_congr_left this, List.map_id']
theorem rowsSB (l : List SkB) : rowsE encSk l = sks (l.map SkB.val) := by
  unfold rowsE sks
  rw [List.map_map]
  rfl
theorem sort45_cc (l : List Sk) (hb : ∀ s ∈ l, 0 ≤ s.a ∧ s.a ≤ 1048576) (hl : l.length < 1000000) : ∃ m : List Sk, m.Perm l ∧ m.Pairwise (fun x y => keyLt y x = false) ∧
    ∀ b nm, CallC Try.prog 45 [.pre b l.length, .fn 46 []] [(b, .row (sks l) 3 50)] nm (.tup []) [(b, some (.row (sks m) 3 50))] := by
  have hs := sortE_spec cfSk swoSk (l.map toSB)
  have key := fun b nm => sortE_cc encSk 3 (fun _ => rfl) (fun x v hv => by simp [encSk] at hv; rcases hv with rfl | rfl | rfl <;> rfl) (by decide) Try.sortSk (fun w => Try.isAgg50 w) (fun w => Try.sizeOf50 w) ⟨_, Try.func45, by kernel_rfl, by kernel_rfl⟩ cfSk swoSk 46 (enters_of Try.func46 (by kernel_rfl) rfl) cmpLays46 (l.map toSB) [] b nm 50 (by simpa using hl)
  refine ⟨(sortE cfSk (l.map toSB)).map SkB.val, ?_, ?_, fun b nm => ?_⟩
  · have := hs.1.map SkB.val
    rw [mapSB hb] at this
    exact this
  · rw [List.pairwise_map]
    refine hs.2.imp fun {x y} h => ?_
    rw [ltSk] at h
    exact h
  · have h := key b nm
    rw [List.append_nil, List.append_nil, rowsSB, rowsSB, mapSB hb, List.length_map] at h
    exact h
end Go.Proofs
end
section
set_option linter.unusedVariables false
set_option linter.unusedSimpArgs false
namespace Go.Proofs
open Go Go.Ab
set_option maxHeartbeats 8000000
set_option maxRecDepth 100000
set_option linter.unusedSimpArgs false
set_option linter.unusedVariables false
attribute [local irreducible] Awp aops aopsL Go.Ab.Pure PureOwn

theorem callC_own {P : Program} {f g nm : Nat} {es : List (List AV)} {sz b : Nat} {e : TypeId} {r : AV} {ups : List (Nat × Option Blk)} (h : CallC P f [.pre b es.length, .fn g []] [(b, .row es sz e)] nm r ups) : CallC P f [.own b, .fn g []] [(b, .row es sz e)] nm r ups := by
  refine ⟨h.1, fun prov β w cs hn hb hi hv => h.2 prov β w cs hn hb hi ⟨hv.1, fun j hj => ?_⟩⟩
  match j, hj with
  | 0, _ =>
    have g1 := hv.2 0 (by simp)
    simp only [av_zero] at g1 ⊢
    obtain ⟨h1, a, n, cap, h2⟩ := SimV.own_inv g1
    have hB := hb b (.row es sz e) (by simp [listH])
    obtain ⟨xs, hf⟩ := hB
    rw [← h1, h2] at hf
    obtain ⟨hnl, hnc, hcm, _⟩ := row_cap hf
    subst hnl
    rw [h2]
    exact .pre b es.length (h1 ▸ h2) hnc hcm
  | 1, _ =>
    have g1 := hv.2 1 (by simp)
    exact g1
def jnB (s x : Sk) : Bool := (x.p.toList == s.p.toList) && decide (x.a ≤ s.b) && decide (s.a ≤ x.b)
def merS (s0 s x : Sk) : Sk := if jnB s0 x = true then ⟨s.p, min s.a x.a, max s.b x.b⟩ else s
def mer (s0 : Sk) (l : List Sk) : Sk := l.foldl (merS s0) s0
def oth (s0 : Sk) (l : List Sk) : List Sk := l.filter fun x => !jnB s0 x
theorem foldl_take {α β : Type} (f : β → α → β) (b : β) (l : List α) (d : α) (i : Nat) (h : i < l.length) : (l.take (i + 1)).foldl f b = f ((l.take i).foldl f b) (l.getD i d) := by
  rw [take_snoc l d i h, List.foldl_append]
  rfl
theorem mer_p (s0 : Sk) : ∀ (l : List Sk) (s : Sk), (l.foldl (merS s0) s).p = s.p
  | [], s => rfl
  | x :: l, s => by
    rw [List.foldl_cons, mer_p s0 l]
    unfold merS
    split <;> rfl
theorem mer_a (s0 : Sk) : ∀ (l : List Sk) (s : Sk), (l.foldl (merS s0) s).a = s.a ∨ ∃ y ∈ l, jnB s0 y = true ∧ (l.foldl (merS s0) s).a = y.a
  | [], s => .inl rfl
  | x :: l, s => by
    rw [List.foldl_cons]
    rcases mer_a s0 l (merS s0 s x) with h | ⟨y, hy, h1, h2⟩
    · rw [h]
      unfold merS
      by_cases hj : jnB s0 x = true
      · rw [if_pos hj]
        show min s.a x.a = s.a ∨ _
        by_cases hm : s.a ≤ x.a
        · exact .inl (Int.min_eq_left hm)
        · exact .inr ⟨x, by simp, hj, Int.min_eq_right (by omega)⟩
      · rw [if_neg hj]; exact .inl rfl
    · exact .inr ⟨y, by simp [hy], h1, h2⟩
def aftB (x m : Sk) : Bool := !(strLess x.p m.p || x.p.toList == m.p.toList) || ((x.p.toList == m.p.toList) && decide (m.a < x.a))
theorem aftB_iff (x m : Sk) : aftB x m = true ↔ keyLt m x = true := by
  have hi := strLess_irrefl m.p
  unfold aftB
  rw [keyLt_iff]
  cases h : strLess x.p m.p
  · cases h2 : (x.p.toList == m.p.toList)
    · have h2' : ¬ x.p.toList = m.p.toList := by simpa using h2
      simp only [Bool.or_self, Bool.not_false, Bool.true_or, true_iff]
      rcases lex_tri m.p.toList x.p.toList with k | k | k
      · exact .inl k
      · exact absurd k.symm h2'
      · rw [← strLess_iff, h] at k; cases k
    · have h2' : x.p.toList = m.p.toList := by simpa using h2
      simp only [Bool.false_or, Bool.not_true, Bool.true_and, decide_eq_true_eq]
      constructor
      · exact fun k => .inr ⟨h2'.symm, k⟩
      · rintro (k | k)
        · rw [h2'] at k; exact absurd k (List.lt_irrefl _)
        · exact k.2
  · have h' := h
    rw [strLess_iff] at h'
    have h2 : (x.p.toList == m.p.toList) = false := by
      rw [Bool.eq_false_iff]
      intro k
      have k : x.p.toList = m.p.toList := by simpa using k
      rw [k] at h'
      exact List.lt_irrefl _ h'
    rw [h2]
    simp only [Bool.true_or, Bool.not_true, Bool.false_and, Bool.or_self, Bool.false_eq_true, false_iff]
    rintro (k | k)
    · exact List.lt_irrefl _ (List.lt_trans h' k)
    · rw [k.1] at h'; exact List.lt_irrefl _ h'
def insK (m : Sk) : List Sk → List Sk
  | [] => [m]
  | x :: r => if aftB x m = true then m :: x :: r else x :: insK m r
def stepK (m : Sk) (r : List Sk × Bool) (x : Sk) : List Sk × Bool := if (!r.2 && aftB x m) = true then (r.1 ++ [m] ++ [x], true) else (r.1 ++ [x], r.2)
def finK (m : Sk) (r : List Sk × Bool) : List Sk := if r.2 = true then r.1 else r.1 ++ [m]
theorem stepK_done (m : Sk) : ∀ (o acc : List Sk), o.foldl (stepK m) (acc, true) = (acc ++ o, true)
  | [], acc => by simp
  | x :: o, acc => by
    rw [List.foldl_cons]
    have e : stepK m (acc, true) x = (acc ++ [x], true) := rfl
    rw [e, stepK_done m o, List.append_assoc]
    rfl
theorem insK_fold (m : Sk) : ∀ (o acc : List Sk), finK m (o.foldl (stepK m) (acc, false)) = acc ++ insK m o
  | [], acc => rfl
  | x :: o, acc => by
    rw [List.foldl_cons]
    unfold insK
    cases h : aftB x m
    · have e : stepK m (acc, false) x = (acc ++ [x], false) := by unfold stepK; rw [h]; rfl
      rw [e, insK_fold m o, List.append_assoc]
      rfl
    · have e : stepK m (acc, false) x = (acc ++ [m] ++ [x], true) := by unfold stepK; rw [h]; rfl
      rw [e, stepK_done]
      simp [finK]
theorem insK_perm (m : Sk) : ∀ o, (insK m o).Perm (m :: o)
  | [] => .refl _
  | x :: o => by
    unfold insK
    split
    · exact .refl _
    · exact ((insK_perm m o).cons x).trans (.swap m x o)
theorem insK_asc (m : Sk) : ∀ {o : List Sk}, o.Pairwise (fun x y => keyLt x y = true) → (∀ x ∈ o, ¬ (x.p.toList = m.p.toList ∧ x.a = m.a)) → (insK m o).Pairwise (fun x y => keyLt x y = true)
  | [], _, _ => List.pairwise_singleton _ _
  | x :: o, h, hd => by
    have hp := List.pairwise_cons.1 h
    unfold insK
    by_cases ha : aftB x m = true
    · rw [if_pos ha]
      rw [aftB_iff] at ha
      refine List.pairwise_cons.2 ⟨fun y hy => ?_, h⟩
      rcases List.mem_cons.1 hy with rfl | hy
      · exact ha
      · exact keyLt_trans _ _ _ ha (hp.1 y hy)
    · rw [if_neg ha]
      rw [aftB_iff] at ha
      refine List.pairwise_cons.2 ⟨fun y hy => ?_, insK_asc m hp.2 fun z hz => hd z (by simp [hz])⟩
      rcases List.mem_cons.1 ((insK_perm m o).mem_iff.1 hy) with rfl | hy
      · rcases keyLt_tri x y with k | k | k
        · exact k
        · exact absurd k (hd x (by simp))
        · exact absurd k ha
      · exact hp.1 y hy
def joinE (l : List Sk) (s : Sk) : List Sk := insK (mer s l) (oth s l)
theorem same_key {l : List Sk} (h : l.Pairwise (fun x y => keyLt x y = true)) {x y : Sk} (hx : x ∈ l) (hy : y ∈ l) (hk : x.p.toList = y.p.toList ∧ x.a = y.a) : x = y := by
  induction l with
  | nil => cases hx
  | cons z l ih =>
    have hp := List.pairwise_cons.1 h
    rcases List.mem_cons.1 hx with rfl | hx'
    · rcases List.mem_cons.1 hy with e | hy'
      · exact e.symm
      · have := hp.1 y hy'
        rw [(keyLt_same hk).1] at this
        exact absurd this (keyLt_irrefl y)
    · rcases List.mem_cons.1 hy with rfl | hy'
      · have := hp.1 x hx'
        rw [(keyLt_same hk).2] at this
        exact absurd this (keyLt_irrefl y)
      · exact ih hp.2 hx' hy'
structure GoodS (l : List Sk) : Prop where
  asc : l.Pairwise (fun x y => keyLt x y = true)
  rng : ∀ x ∈ l, 0 ≤ x.a ∧ x.a < x.b ∧ x.b ≤ 1048576
theorem oth_key {l : List Sk} (h : GoodS l) {s : Sk} (hs : s.a < s.b) : ∀ x ∈ oth s l, ¬ (x.p.toList = (mer s l).p.toList ∧ x.a = (mer s l).a) := by
  intro x hx ⟨h1, h2⟩
  obtain ⟨hxl, hxj⟩ := List.mem_filter.1 hx
  have hxj : jnB s x = false := by simpa using hxj
  have hr := h.rng x hxl
  unfold mer at h1 h2
  rw [mer_p] at h1
  rcases mer_a s l s with k | ⟨y, hy, hj, k⟩
  · rw [k] at h2
    have : jnB s x = true := by
      unfold jnB
      rw [Bool.and_eq_true, Bool.and_eq_true, beq_iff_eq, decide_eq_true_eq, decide_eq_true_eq]
      exact ⟨⟨h1, by omega⟩, by omega⟩
    rw [hxj] at this; cases this
  · rw [k] at h2
    have hjp : y.p.toList = s.p.toList := by
      unfold jnB at hj
      rw [Bool.and_eq_true, Bool.and_eq_true, beq_iff_eq] at hj
      exact hj.1.1
    have := same_key h.asc hxl hy ⟨h1.trans hjp.symm, h2⟩
    rw [this, hj] at hxj
    cases hxj
theorem join_is {l : List Sk} (h : GoodS l) {s : Sk} (hs : s.a < s.b) {m : List Sk} (hp : m.Perm (oth s l ++ [mer s l])) (ha : m.Pairwise (fun x y => keyLt y x = false)) : m = joinE l s := by
  have hk := oth_key h hs
  have ho : (oth s l).Pairwise (fun x y => keyLt x y = true) := h.asc.filter _
  have hi := insK_asc (mer s l) ho hk
  refine sorted_eq (r := fun x y => keyLt x y = true) keyLt_irrefl keyLt_trans ?_ ?_ hi
  · exact hp.trans ((List.perm_append_singleton _ _).trans (insK_perm _ _).symm)
  · have hd : (joinE l s).Pairwise (fun x y => ¬ (x.p.toList = y.p.toList ∧ x.a = y.a)) := hi.imp fun {x y} hxy hk => by
      rw [(keyLt_same hk).1] at hxy
      exact keyLt_irrefl _ hxy
    have hpm : m.Perm (joinE l s) := hp.trans ((List.perm_append_singleton _ _).trans (insK_perm _ _).symm)
    have hd2 : m.Pairwise (fun x y => ¬ (x.p.toList = y.p.toList ∧ x.a = y.a)) := (hpm.pairwise_iff (fun {x y} hxy hk => hxy ⟨hk.1.symm, hk.2.symm⟩)).2 hd
    refine (ha.and hd2).imp fun {x y} ⟨h1, h2⟩ => ?_
    rcases keyLt_tri x y with k | k | k
    · exact k
    · exact absurd k h2
    · rw [h1] at k; cases k
theorem mer_bnd {l : List Sk} (h : GoodS l) {s : Sk} (h0 : 0 ≤ s.a ∧ s.a ≤ 1048576) : ∀ x ∈ oth s l ++ [mer s l], 0 ≤ x.a ∧ x.a ≤ 1048576 := by
  intro x hx
  rcases List.mem_append.1 hx with hx | hx
  · have := h.rng x (List.mem_filter.1 hx).1
    omega
  · rw [List.mem_singleton.1 hx]
    rcases mer_a s l s with k | ⟨y, hy, hj, k⟩
    · unfold mer; rw [k]; exact h0
    · have := h.rng y hy
      unfold mer; rw [k]; omega
theorem oth_len (s : Sk) (l : List Sk) : (oth s l).length ≤ l.length := List.length_filter_le _ _
theorem oth_step (s : Sk) (l : List Sk) (i : Nat) (h : i < l.length) : oth s (l.take (i + 1)) = oth s (l.take i) ++ (if jnB s (l.getD i zeroSk) = true then [] else [l.getD i zeroSk]) := by
  rw [take_snoc l zeroSk i h]
  unfold oth
  rw [List.filter_append]
  congr 1
  cases hp : jnB s (l.getD i zeroSk)
  · rw [List.filter_cons_of_pos (by rw [hp]; rfl)]; rfl
  · rw [List.filter_cons_of_neg (by rw [hp]; simp)]; rfl
theorem mer_step (s : Sk) (l : List Sk) (i : Nat) (h : i < l.length) : mer s (l.take (i + 1)) = merS s (mer s (l.take i)) (l.getD i zeroSk) := foldl_take _ _ _ _ _ h
theorem sks_one1 (x : Sk) : [[AV.v (.string x.p), .v (.int .i64 x.a), .v (.int .i64 x.b)]] = sks [x] := rfl
theorem mnI (a b : Int) : (if b < a then b else a) = min a b := by rw [Int.min_def]; split <;> split <;> omega
theorem mxI (a b : Int) : (if a < b then b else a) = max a b := by rw [Int.max_def]; split <;> split <;> omega
def mcell (s m : Sk) : List AV := [.v (.string s.p), .v (.int .i64 m.a), .v (.int .i64 m.b)]
theorem renewed_ok (l : List Sk) (s : Sk) (hg : GoodS l) (hl : l.length ≤ 40) (hs : s.a < s.b) (h0 : 0 ≤ s.a ∧ s.a ≤ 1048576) : PureOwn Try.prog 37 [.sl (sks l), s.av] (sks (joinE l s)) 3 50 := by
  have hol := oth_len s l
  obtain ⟨m, hm, hma, cs⟩ := sort45_cc (oth s l ++ [mer s l]) (mer_bnd hg h0) (by simp; omega)
  rw [← join_is hg hs hm hma]
  have cs1 := fun b nm => by have h := cs b nm; rw [← sks_len] at h; exact callC_own h
  have hmp : (mer s l).p = s.p := mer_p s l s
  clear hg hs h0 hm hma cs
  refine fn_own Try.F37 (Nat.le_of_ble_eq_true rfl) ?_; unfold Try.ac37
  repeat' (first
    | (apply Awp.sreg; (case hn => (simp only [List.length_cons, List.length_nil, Nat.reduceAdd] <;> rfl)))
    | (apply Awp.sdraw; (case hn => (simp only [List.length_cons, List.length_nil, Nat.reduceAdd] <;> rfl)))
    | (refine st_nil ?_)
    | (apply st_a; (case hc => rfl); (case he => (simp only [go_sem, *] <;> rfl)); (case hu => (simp only [updL_nil, updL_cons] <;> rfl)); (case hp => first | trivial))
    | refine Awp.block ?_
    | refine Awp.seq ?_
    | (apply sl_a; (case hc => rfl); (case he => (simp only [go_sem, *] <;> rfl)); (case hu => (simp only [updL_nil, updL_cons] <;> rfl)); (case hl => (simp only [List.map_cons, List.map_nil] <;> rfl)); (case hp => first | trivial))
    | (refine sl_nil (And.intro (by first | exact drawOk_of (by decide +kernel) | (simp only [List.map_cons, List.map_nil]; exact drawOk_of (by decide +kernel)) | decide) ?_)))
  refine Awp.loop (fun i : Nat => i ≤ l.length) 60 (fun i => mkS [(3, .bp 0 0), (5, .own 1), (6, .v (.int .i64 s.a)), (7, .v (.int .i64 s.b)), (14, .sl (sks l)), (15, .v (.int .i64 l.length)), (16, .v (.int .i64 i))] [(0, .box (mcell s (mer s (l.take i)))), (1, .row (sks (oth s (l.take i))) 3 50)]) (fun i => l.length - i) 0 (by omega) ?_ ?_
  · refine Ghost.trans (Ghost.name 5 3 50 rfl (by decide)) ?_
    have e1 : oth s (l.take 0) = [] := rfl
    have e2 : mcell s (mer s (l.take 0)) = [.v (.string s.p), .v (.int .i64 s.a), .v (.int .i64 s.b)] := rfl
    rw [e1, e2]
    clear cs1
    (apply Ghost.mk [(1, 12)] []; (case hdead => rfl); (case hinj => rfl); (case hV => (simp only [go_sem, *]) <;> (repeat' (first | refine And.intro ?_ ?_ | exact View.int (by first | rfl | omega | (simp; done) | (rw [wrap_i64] <;> (try simp only [Int.natCast_add]) <;> omega) | (simp [*]; done)) | exact .bp rfl (by decide) | exact .own rfl (by decide)))); (case hB => (simp only [go_sem, *]) <;> (repeat' (first | refine And.intro ?_ ?_ | exact ⟨_, rfl, BView.boxF rfl⟩ | exact ⟨_, rfl, .rowE (by first | rfl | omega | (simp; done) | (rw [wrap_i64] <;> (try simp only [Int.natCast_add]) <;> omega) | (simp [*]; done))⟩))))
  · intro i hi
    by_cases hlt : i < l.length
    · have hlt' : (i : Int) < l.length := by omega
      have hat := sks_at l i hlt
      have hz : ((l.getD i zeroSk).cells).length = 3 := rfl
      have hst := oth_step s l i hlt
      have hsm := mer_step s l i hlt
      have hln := oth_len s (l.take i)
      have htl : (l.take i).length = i := List.length_take_of_le hi
      clear cs1
      generalize l.getD i zeroSk = x at *
      generalize oth s (l.take i) = O at *
      generalize mer s (l.take i) = M at *
      unfold merS at hsm
      cases hB : jnB s x
      · rw [hB] at hst hsm
        simp only [Bool.false_eq_true, if_false] at hst hsm
        unfold jnB at hB
        unfold mcell
        repeat' (first
    | (apply Awp.sreg; (case hn => (simp only [List.length_cons, List.length_nil, Nat.reduceAdd] <;> rfl)))
    | (refine st_nil ?_)
    | (apply st_a; (case hc => rfl); (case he => (simp only [go_sem, *] <;> rfl)); (case hu => (simp only [updL_nil, updL_cons] <;> rfl)); (case hp => first | trivial | omega | (simp; done) | (simp; omega)))
    | (apply st_m; (case hc => rfl); (case hg => (simp only [go_sem, *] <;> rfl)); (case he => (intro hQz; (try simp only [wantB_t, wantB_f, Bool.and_eq_true, Bool.not_eq_true', Bool.not_true, Bool.not_false, and_true, true_and] at hQz); simp only [go_sem, *] <;> rfl)); (case hp => (intro hQz; (try simp only [wantB_t, wantB_f, Bool.and_eq_true, Bool.not_eq_true', Bool.or_eq_false_iff, decide_eq_true_eq, decide_eq_false_iff_not, beq_iff_eq, beq_eq_false_iff_ne, bne_iff_ne, bne_eq_false_iff_eq, Int.not_lt, Int.not_le, Int.ofNat_lt, Int.ofNat_le] at hQz); first | trivial)))
    | (apply Awp.reg; (case hn => (simp only [List.length_cons, List.length_nil, Nat.reduceAdd] <;> rfl)))
    | (refine Awp.skip ?_; try simp only [go_sem, *])
    | refine Awp.block ?_
    | (apply Awp.cond; (case hc => (simp only [go_sem, *] <;> rfl)); all_goals (intro hg; (try simp only [Bool.not_true, Bool.not_false, reduceCtorEq] at hg)))
    | refine Awp.seq ?_)
        refine ⟨i + 1, by omega, by omega, ?_⟩
        rw [hst, hsm, ← sks_snoc]
        clear hst hsm
        (apply Ghost.mk [(1, 85)] []; (case hdead => rfl); (case hinj => rfl); (case hV => (simp only [go_sem, *]) <;> (repeat' (first | refine And.intro ?_ ?_ | exact View.int (by first | rfl | omega | (simp; done) | (rw [wrap_i64] <;> (try simp only [Int.natCast_add]) <;> omega) | (simp [*]; done)) | exact .bp rfl (by decide) | exact .own rfl (by decide)))); (case hB => (simp only [go_sem, *]) <;> (repeat' (first | refine And.intro ?_ ?_ | exact ⟨_, rfl, BView.boxF rfl⟩ | exact ⟨_, rfl, .rowE (by first | rfl | omega | (simp; done) | (rw [wrap_i64] <;> (try simp only [Int.natCast_add]) <;> omega) | (simp [*]; done))⟩))))
      · rw [hB] at hst hsm
        simp only [if_true, List.append_nil] at hst hsm
        have e1 := mnI M.a x.a
        have e2 := mxI M.b x.b
        unfold jnB at hB
        unfold mcell
        repeat' (first
    | (apply Awp.sreg; (case hn => (simp only [List.length_cons, List.length_nil, Nat.reduceAdd] <;> rfl)))
    | (apply Awp.sdraw; (case hn => (simp only [List.length_cons, List.length_nil, Nat.reduceAdd] <;> rfl)))
    | (refine st_nil ?_)
    | (apply st_a; (case hc => rfl); (case he => (simp only [go_sem, *] <;> rfl)); (case hu => (simp only [updL_nil, updL_cons] <;> rfl)); (case hp => first | trivial | omega))
    | (apply st_m; (case hc => rfl); (case hg => (simp only [go_sem, *] <;> rfl)); (case he => (intro hQz; (try simp only [wantB_t, wantB_f, Bool.and_eq_true, Bool.not_eq_true', Bool.not_true, Bool.not_false, and_true, true_and] at hQz); simp only [go_sem, *] <;> rfl)); (case hp => (intro hQz; (try simp only [wantB_t, wantB_f, Bool.and_eq_true, Bool.not_eq_true', Bool.or_eq_false_iff, decide_eq_true_eq, decide_eq_false_iff_not, beq_iff_eq, beq_eq_false_iff_ne, bne_iff_ne, bne_eq_false_iff_eq, Int.not_lt, Int.not_le, Int.ofNat_lt, Int.ofNat_le] at hQz); first | trivial)))
    | (apply Awp.reg; (case hn => (simp only [List.length_cons, List.length_nil, Nat.reduceAdd] <;> rfl)))
    | (refine Awp.skip ?_; try simp only [go_sem, *])
    | (refine Awp.exit ?_; try simp only [go_sem, *])
    | refine Awp.block ?_
    | (apply Awp.cond; (case hc => (simp only [go_sem, *] <;> rfl)); all_goals (intro hg; (try simp only [Bool.not_true, Bool.not_false, reduceCtorEq] at hg)))
    | refine Awp.seq ?_
    | (apply sl_a; (case hc => rfl); (case he => (simp only [go_sem, *] <;> rfl)); (case hu => (simp only [updL_nil, updL_cons] <;> rfl)); (case hl => (simp only [List.map_cons, List.map_nil] <;> rfl)); (case hp => first | trivial))
    | (refine sl_nil (And.intro (by first | exact drawOk_of (by decide +kernel) | (simp only [List.map_cons, List.map_nil]; exact drawOk_of (by decide +kernel)) | decide) ?_)))
        refine ⟨i + 1, by omega, by omega, ?_⟩
        rw [hst, hsm]
        clear hst hsm
        (apply Ghost.mk [] []; (case hdead => rfl); (case hinj => rfl); (case hV => (simp only [go_sem, *]) <;> (repeat' (first | refine And.intro ?_ ?_ | exact View.int (by first | rfl | omega | (simp; done) | (rw [wrap_i64] <;> (try simp only [Int.natCast_add]) <;> omega) | (simp [*]; done)) | exact .bp rfl (by decide) | exact .own rfl (by decide)))); (case hB => (simp only [go_sem, *]) <;> (repeat' (first | refine And.intro ?_ ?_ | exact ⟨_, rfl, BView.boxF rfl⟩ | exact ⟨_, rfl, .rowE (by first | rfl | omega | (simp; done) | (rw [wrap_i64] <;> (try simp only [Int.natCast_add]) <;> omega) | (simp [*]; done))⟩))))
    · have hlt' : ¬ (i : Int) < l.length := by omega
      have e1 : l.take i = l := List.take_of_length_le (by omega)
      rw [e1]
      rw [← sks_snoc] at cs1
      have hsc : (mer s l).cells = [.v (.string s.p), .v (.int .i64 (mer s l).a), .v (.int .i64 (mer s l).b)] := by
        unfold Sk.cells; rw [hmp]
      rw [hsc] at cs1
      clear hmp hsc e1 hlt
      generalize mer s l = M at *
      generalize oth s l = O at *
      unfold mcell
      repeat' (first
    | (apply Awp.sreg; (case hn => (simp only [List.length_cons, List.length_nil, Nat.reduceAdd] <;> rfl)))
    | (refine st_nil ?_)
    | (apply st_a; (case hc => rfl); (case he => (simp only [go_sem, *] <;> rfl)); (case hu => (simp only [updL_nil, updL_cons] <;> rfl)); (case hp => first | trivial | (simp; done) | (simp; omega)))
    | (apply st_cc; (case hc => (simp only [go_sem, *] <;> rfl)); (case hcc => exact (cs1 _ _)); (case hh => (first | (simp only [List.mem_singleton, forall_eq]; first | (simp only [go_sem, *] <;> rfl) | (simp only [go_sem, *]; simp [ints])) | (intro p hp; cases hp; done) | (intro p hp; simp only [List.mem_cons, List.not_mem_nil, or_false] at hp; rcases hp with rfl | rfl | rfl | rfl | rfl | rfl | rfl <;> (simp only [go_sem, *] <;> rfl)) | (intro p hp; simp only [List.mem_cons, List.not_mem_nil, or_false] at hp; rcases hp with rfl | rfl | rfl | rfl <;> (simp only [go_sem, *] <;> rfl)))); (case hu => (first | (simp; done) | decide)); (case hm => (first | decide | (simp; done))); (case hw => (simp only [updL_nil, updL_cons] <;> rfl)))
    | (refine Awp.ret ?_; try simp only [go_sem, *])
    | (refine Awp.exit ?_; try simp only [go_sem, *])
    | (apply Awp.cond; (case hc => (simp only [go_sem, *] <;> rfl)); all_goals (intro hg; (try simp only [Bool.not_true, Bool.not_false, reduceCtorEq] at hg)))
    | refine Awp.seq ?_)
      all_goals exact ⟨_, rfl, rfl⟩
end Go.Proofs
end
section
set_option linter.unusedVariables false
set_option linter.unusedSimpArgs false
namespace Go.Proofs
open Go Go.Ab
set_option maxHeartbeats 8000000
set_option maxRecDepth 100000
set_option linter.unusedSimpArgs false
set_option linter.unusedVariables false
attribute [local irreducible] Awp aops aopsL Go.Ab.Pure PureOwn

theorem stepK_len (m : Sk) : ∀ (o : List Sk) (r : List Sk × Bool), (o.foldl (stepK m) r).1.length ≤ r.1.length + 2 * o.length
  | [], r => by simp
  | x :: o, r => by
    rw [List.foldl_cons]
    have h := stepK_len m o (stepK m r x)
    have h2 : (stepK m r x).1.length ≤ r.1.length + 2 := by
      unfold stepK
      split <;> simp
    simp only [List.length_cons]
    omega
theorem joined_ok (l : List Sk) (s : Sk) (hl : l.length ≤ 40) : PureOwn Try.prog 38 [.sl (sks l), s.av] (sks (joinE l s)) 3 50 := by
  have hol := oth_len s l
  have hmp : (mer s l).p = s.p := mer_p s l s
  have hins : joinE l s = finK (mer s l) ((oth s l).foldl (stepK (mer s l)) ([], false)) := by rw [insK_fold]; rfl
  rw [hins]
  clear hins
  refine fn_own Try.F38 (Nat.le_of_ble_eq_true rfl) ?_; unfold Try.ac38
  repeat' (first
    | (apply Awp.sreg; (case hn => (simp only [List.length_cons, List.length_nil, Nat.reduceAdd] <;> rfl)))
    | (refine st_nil ?_)
    | (apply st_a; (case hc => rfl); (case he => (simp only [go_sem, *] <;> rfl)); (case hu => (simp only [updL_nil, updL_cons] <;> rfl)); (case hp => first | trivial))
    | refine Awp.block ?_
    | refine Awp.seq ?_)
  refine Awp.loop (fun i : Nat => i ≤ l.length) 60 (fun i => mkS [(0, .sl (sks l)), (3, .bp 0 0), (5, .own 2), (6, .bp 1 0), (7, .v (.int .i64 i))] [(0, .box (mcell s (mer s (l.take i)))), (1, .box [.v (.string s.p), .v (.int .i64 s.a), .v (.int .i64 s.b)]), (2, .row (sks (oth s (l.take i))) 3 50)]) (fun i => l.length - i) 0 (by omega) ?_ ?_
  · refine Ghost.trans (Ghost.name 5 3 50 rfl (by decide)) ?_
    have e1 : oth s (l.take 0) = [] := rfl
    have e2 : mcell s (mer s (l.take 0)) = [.v (.string s.p), .v (.int .i64 s.a), .v (.int .i64 s.b)] := rfl
    rw [e1, e2]
    (apply Ghost.mk [(1, 4), (2, 7)] []; (case hdead => rfl); (case hinj => rfl); (case hV => (simp only [go_sem, *]) <;> (repeat' (first | refine And.intro ?_ ?_ | exact View.int (by first | rfl | omega | (simp; done) | (rw [wrap_i64] <;> (try simp only [Int.natCast_add]) <;> omega) | (simp [*]; done)) | exact .bp rfl (by decide) | exact .own rfl (by decide)))); (case hB => (simp only [go_sem, *]) <;> (repeat' (first | refine And.intro ?_ ?_ | exact ⟨_, rfl, BView.boxF rfl⟩ | exact ⟨_, rfl, .rowE (by first | rfl | omega | (simp; done) | (rw [wrap_i64] <;> (try simp only [Int.natCast_add]) <;> omega) | (simp [*]; done))⟩))))
  · intro i hi
    by_cases hlt : i < l.length
    · have hlt' : (i : Int) < l.length := by omega
      have hat := sks_at l i hlt
      have hz : ((l.getD i zeroSk).cells).length = 3 := rfl
      have hst := oth_step s l i hlt
      have hsm := mer_step s l i hlt
      have hln := oth_len s (l.take i)
      have htl : (l.take i).length = i := List.length_take_of_le hi
      clear hmp hol
      generalize l.getD i zeroSk = x at *
      generalize oth s (l.take i) = O at *
      generalize mer s (l.take i) = M at *
      unfold merS at hsm
      cases hB : jnB s x
      · rw [hB] at hst hsm
        simp only [Bool.false_eq_true, if_false] at hst hsm
        unfold jnB at hB
        unfold mcell
        repeat' (first
    | (apply Awp.sreg; (case hn => (simp only [List.length_cons, List.length_nil, Nat.reduceAdd] <;> rfl)))
    | (apply Awp.sdraw; (case hn => (simp only [List.length_cons, List.length_nil, Nat.reduceAdd] <;> rfl)))
    | (refine st_nil ?_)
    | (apply st_a; (case hc => rfl); (case he => (simp only [go_sem, *] <;> rfl)); (case hu => (simp only [updL_nil, updL_cons] <;> rfl)); (case hp => first | trivial | omega | (simp; done) | (simp; omega)))
    | (apply Awp.reg; (case hn => (simp only [List.length_cons, List.length_nil, Nat.reduceAdd] <;> rfl)))
    | (refine Awp.skip ?_; try simp only [go_sem, *])
    | refine Awp.block ?_
    | (apply Awp.cond; (case hc => (simp only [go_sem, *] <;> rfl)); all_goals (intro hg; (try simp only [Bool.not_true, Bool.not_false, reduceCtorEq] at hg)))
    | refine Awp.seq ?_
    | (refine Awp.draw ?_)
    | (apply sl_a; (case hc => rfl); (case he => (simp only [go_sem, *] <;> rfl)); (case hu => (simp only [updL_nil, updL_cons] <;> rfl)); (case hl => (simp only [List.map_cons, List.map_nil] <;> rfl)); (case hp => first | trivial | omega))
    | (apply sl_gn; (case hv => (simp only [go_sem, *] <;> rfl)); (case hbw => rfl))
    | (apply sl_ga; (case hb => rfl); (case hv => (simp only [go_sem, *] <;> rfl)); (case he => (simp only [go_sem, *] <;> rfl)); (case hu => (simp only [updL_nil, updL_cons] <;> rfl)); (case hl => (simp only [List.map_cons, List.map_nil] <;> rfl)); (case hp => first | trivial | omega))
    | (apply sl_case; (case hv => (simp only [go_sem, *] <;> rfl)); all_goals (intro hg; (try simp only [Bool.not_true, Bool.not_false, reduceCtorEq] at hg)))
    | (refine sl_nil (And.intro (by first | exact drawOk_of (by decide +kernel) | (simp only [List.map_cons, List.map_nil]; exact drawOk_of (by decide +kernel)) | decide) ?_)))
        all_goals (try (exfalso; simp only [Bool.or_true, Bool.true_or, Bool.or_false, Bool.false_or, Bool.and_true, Bool.true_and, Bool.and_false, Bool.false_and, Bool.not_true, Bool.not_false, reduceCtorEq, *] at hB; done))
        all_goals (refine ⟨i + 1, by omega, by omega, ?_⟩; rw [hst, hsm, ← sks_snoc]; clear hst hsm; (apply Ghost.mk [(2, 98)] []; (case hdead => rfl); (case hinj => rfl); (case hV => (simp only [go_sem, *]) <;> (repeat' (first | refine And.intro ?_ ?_ | exact View.int (by first | rfl | omega | (simp; done) | (rw [wrap_i64] <;> (try simp only [Int.natCast_add]) <;> omega) | (simp [*]; done)) | exact .bp rfl (by decide) | exact .own rfl (by decide)))); (case hB => (simp only [go_sem, *]) <;> (repeat' (first | refine And.intro ?_ ?_ | exact ⟨_, rfl, BView.boxF rfl⟩ | exact ⟨_, rfl, .rowE (by first | rfl | omega | (simp; done) | (rw [wrap_i64] <;> (try simp only [Int.natCast_add]) <;> omega) | (simp [*]; done))⟩)))))
      · rw [hB] at hst hsm
        simp only [if_true, List.append_nil] at hst hsm
        have e1 := mnI M.a x.a
        have e2 := mxI M.b x.b
        unfold jnB at hB
        unfold mcell
        repeat' (first
    | (apply Awp.sreg; (case hn => (simp only [List.length_cons, List.length_nil, Nat.reduceAdd] <;> rfl)))
    | (apply Awp.sdraw; (case hn => (simp only [List.length_cons, List.length_nil, Nat.reduceAdd] <;> rfl)))
    | (refine st_nil ?_)
    | (apply st_a; (case hc => rfl); (case he => (simp only [go_sem, *] <;> rfl)); (case hu => (simp only [updL_nil, updL_cons] <;> rfl)); (case hp => first | trivial | omega | (simp; done) | (simp; omega)))
    | (apply Awp.reg; (case hn => (simp only [List.length_cons, List.length_nil, Nat.reduceAdd] <;> rfl)))
    | (refine Awp.skip ?_; try simp only [go_sem, *])
    | refine Awp.block ?_
    | (apply Awp.cond; (case hc => (simp only [go_sem, *] <;> rfl)); all_goals (intro hg; (try simp only [Bool.not_true, Bool.not_false, reduceCtorEq] at hg)))
    | refine Awp.seq ?_
    | (refine Awp.draw ?_)
    | (apply sl_a; (case hc => rfl); (case he => (simp only [go_sem, *] <;> rfl)); (case hu => (simp only [updL_nil, updL_cons] <;> rfl)); (case hl => (simp only [List.map_cons, List.map_nil] <;> rfl)); (case hp => first | trivial | omega))
    | (apply sl_gn; (case hv => (simp only [go_sem, *] <;> rfl)); (case hbw => rfl))
    | (apply sl_ga; (case hb => rfl); (case hv => (simp only [go_sem, *] <;> rfl)); (case he => (simp only [go_sem, *] <;> rfl)); (case hu => (simp only [updL_nil, updL_cons] <;> rfl)); (case hl => (simp only [List.map_cons, List.map_nil] <;> rfl)); (case hp => first | trivial | omega))
    | (apply sl_case; (case hv => (simp only [go_sem, *] <;> rfl)); all_goals (intro hg; (try simp only [Bool.not_true, Bool.not_false, reduceCtorEq] at hg)))
    | (refine sl_nil (And.intro (by first | exact drawOk_of (by decide +kernel) | (simp only [List.map_cons, List.map_nil]; exact drawOk_of (by decide +kernel)) | decide) ?_)))
        all_goals (try (exfalso; simp only [Bool.or_true, Bool.true_or, Bool.or_false, Bool.false_or, Bool.and_true, Bool.true_and, Bool.and_false, Bool.false_and, Bool.not_true, Bool.not_false, reduceCtorEq, *] at hB; done))
        all_goals (refine ⟨i + 1, by omega, by omega, ?_⟩; rw [hst, hsm]; clear hst hsm; (apply Ghost.mk [] []; (case hdead => rfl); (case hinj => rfl); (case hV => (simp only [go_sem, *]) <;> (repeat' (first | refine And.intro ?_ ?_ | exact View.int (by first | rfl | omega | (simp; done) | (rw [wrap_i64] <;> (try simp only [Int.natCast_add]) <;> omega) | (simp [*]; done)) | exact .bp rfl (by decide) | exact .own rfl (by decide)))); (case hB => (simp only [go_sem, *]) <;> (repeat' (first | refine And.intro ?_ ?_ | exact ⟨_, rfl, BView.boxF rfl⟩ | exact ⟨_, rfl, .rowE (by first | rfl | omega | (simp; done) | (rw [wrap_i64] <;> (try simp only [Int.natCast_add]) <;> omega) | (simp [*]; done))⟩)))))
    · have hlt' : ¬ (i : Int) < l.length := by omega
      have e1 : l.take i = l := List.take_of_length_le (by omega)
      rw [e1]
      have hsc : mcell s (mer s l) = (mer s l).cells := by
        unfold Sk.cells mcell; rw [hmp]
      rw [hsc]
      clear hmp hsc e1 hlt hi
      generalize mer s l = M at *
      generalize oth s l = O at *
      repeat' (first
    | (apply Awp.sreg; (case hn => (simp only [List.length_cons, List.length_nil, Nat.reduceAdd] <;> rfl)))
    | (refine st_nil ?_)
    | (apply st_a; (case hc => rfl); (case he => (simp only [go_sem, *] <;> rfl)); (case hu => (simp only [updL_nil, updL_cons] <;> rfl)); (case hp => first | trivial))
    | (refine Awp.exit ?_; try simp only [go_sem, *])
    | refine Awp.block ?_
    | (apply Awp.cond; (case hc => (simp only [go_sem, *] <;> rfl)); all_goals (intro hg; (try simp only [Bool.not_true, Bool.not_false, reduceCtorEq] at hg)))
    | refine Awp.seq ?_)
      clear hlt'
      refine Awp.loop (fun i : Nat => i ≤ O.length) 200 (fun i => mkS [(3, .bp 0 0), (5, .own 2), (8, .own 3), (9, .v (.bool ((O.take i).foldl (stepK M) ([], false)).2)), (10, .v (.int .i64 i))] [(0, .box M.cells), (2, .row (sks O) 3 50), (3, .row (sks ((O.take i).foldl (stepK M) ([], false)).1) 3 50)]) (fun i => O.length - i) 0 (by omega) ?_ ?_
      · refine Ghost.trans (Ghost.name 8 3 50 rfl (by decide)) ?_
        have e1 : (O.take 0).foldl (stepK M) ([], false) = ([], false) := rfl
        rw [e1]
        (apply Ghost.mk [(3, 67)] []; (case hdead => rfl); (case hinj => rfl); (case hV => (simp only [go_sem, *]) <;> (repeat' (first | refine And.intro ?_ ?_ | exact View.int (by first | rfl | omega | (simp; done) | (rw [wrap_i64] <;> (try simp only [Int.natCast_add]) <;> omega) | (simp [*]; done)) | exact .bp rfl (by decide) | exact .own rfl (by decide)))); (case hB => (simp only [go_sem, *]) <;> (repeat' (first | refine And.intro ?_ ?_ | exact ⟨_, rfl, BView.boxF rfl⟩ | exact ⟨_, rfl, .rowE (by first | rfl | omega | (simp; done) | (rw [wrap_i64] <;> (try simp only [Int.natCast_add]) <;> omega) | (simp [*]; done))⟩))))
      · intro i hi
        by_cases hlt : i < O.length
        · have hlt' : (i : Int) < O.length := by omega
          have hat := sks_at O i hlt
          have hz : ((O.getD i zeroSk).cells).length = 3 := rfl
          have hln := sks_len O
          have hst := foldl_take (stepK M) ([], false) O zeroSk i hlt
          have hrl := stepK_len M (O.take i) ([], false)
          have htl : (O.take i).length = i := List.length_take_of_le hi
          rw [htl] at hrl
          simp only [List.length_nil] at hrl
          obtain ⟨⟨R, d⟩, hR⟩ : ∃ R, (O.take i).foldl (stepK M) ([], false) = R := ⟨_, rfl⟩
          rw [hR] at hst hrl
          rw [hR]
          clear hR htl
          generalize O.getD i zeroSk = x at *
          dsimp only at hrl ⊢
          cases d
          · cases hA : aftB x M
            · rw [show stepK M (R, false) x = (R ++ [x], false) by unfold stepK; rw [hA]; rfl] at hst
              unfold aftB at hA
              repeat' (first
    | (apply Awp.sreg; (case hn => (simp only [List.length_cons, List.length_nil, Nat.reduceAdd] <;> rfl)))
    | (apply Awp.sdraw; (case hn => (simp only [List.length_cons, List.length_nil, Nat.reduceAdd] <;> rfl)))
    | (refine st_nil ?_)
    | (apply st_a; (case hc => rfl); (case he => (simp only [go_sem, *] <;> rfl)); (case hu => (simp only [updL_nil, updL_cons] <;> rfl)); (case hp => first | trivial | omega | (simp; done) | (simp; omega)))
    | (apply Awp.reg; (case hn => (simp only [List.length_cons, List.length_nil, Nat.reduceAdd] <;> rfl)))
    | (refine Awp.skip ?_; try simp only [go_sem, *])
    | refine Awp.block ?_
    | (apply Awp.cond; (case hc => (simp only [go_sem, *] <;> rfl)); all_goals (intro hg; (try simp only [Bool.not_true, Bool.not_false, reduceCtorEq] at hg)))
    | refine Awp.seq ?_
    | (apply sl_a; (case hc => rfl); (case he => (simp only [go_sem, *] <;> rfl)); (case hu => (simp only [updL_nil, updL_cons] <;> rfl)); (case hl => (simp only [List.map_cons, List.map_nil] <;> rfl)); (case hp => first | trivial))
    | (apply sl_gu; (case hv => (simp only [go_sem, *] <;> rfl)))
    | (apply sl_gn; (case hv => (simp only [go_sem, *] <;> rfl)); (case hbw => rfl))
    | (apply sl_ga; (case hb => rfl); (case hv => (simp only [go_sem, *] <;> rfl)); (case he => (simp only [go_sem, *] <;> rfl)); (case hu => (simp only [updL_nil, updL_cons] <;> rfl)); (case hl => (simp only [List.map_cons, List.map_nil] <;> rfl)); (case hp => first | trivial | omega))
    | (apply sl_case; (case hv => (simp only [go_sem, *] <;> rfl)); all_goals (intro hg; (try simp only [Bool.not_true, Bool.not_false, reduceCtorEq] at hg)))
    | (refine sl_nil (And.intro (by first | exact drawOk_of (by decide +kernel) | (simp only [List.map_cons, List.map_nil]; exact drawOk_of (by decide +kernel)) | decide) ?_)))
              all_goals (try (exfalso; simp only [Bool.or_true, Bool.true_or, Bool.or_false, Bool.false_or, Bool.and_true, Bool.true_and, Bool.and_false, Bool.false_and, Bool.not_true, Bool.not_false, reduceCtorEq, *] at hA; done))
              all_goals (refine ⟨i + 1, by omega, by omega, ?_⟩; rw [hst]; dsimp only; rw [← sks_snoc]; clear hst; first | ((apply Ghost.mk [(3, 242)] []; (case hdead => rfl); (case hinj => rfl); (case hV => (simp only [go_sem, *]) <;> (repeat' (first | refine And.intro ?_ ?_ | exact View.int (by first | rfl | omega | (simp; done) | (rw [wrap_i64] <;> (try simp only [Int.natCast_add]) <;> omega) | (simp [*]; done)) | exact .bp rfl (by decide) | exact .own rfl (by decide)))); (case hB => (simp only [go_sem, *]) <;> (repeat' (first | refine And.intro ?_ ?_ | exact ⟨_, rfl, BView.boxF rfl⟩ | exact ⟨_, rfl, .rowE (by first | rfl | omega | (simp; done) | (rw [wrap_i64] <;> (try simp only [Int.natCast_add]) <;> omega) | (simp [*]; done))⟩))))) | ((apply Ghost.mk [(3, 239)] []; (case hdead => rfl); (case hinj => rfl); (case hV => (simp only [go_sem, *]) <;> (repeat' (first | skip; done))); (case hB => (simp only [go_sem, *]) <;> (repeat' (first | skip; done))))))
            · rw [show stepK M (R, false) x = (R ++ [M] ++ [x], true) by unfold stepK; rw [hA]; rfl] at hst
              unfold aftB at hA
              have esn : sks R ++ [[.v (.string M.p), .v (.int .i64 M.a), .v (.int .i64 M.b)]] = sks (R ++ [M]) := sks_snoc R M
              have efin : sks (R ++ [M]) ++ [[.v (.string x.p), .v (.int .i64 x.a), .v (.int .i64 x.b)]] = sks (R ++ [M, x]) := by simp [sks, Sk.cells]
              repeat' (first
    | (apply Awp.sreg; (case hn => (simp only [List.length_cons, List.length_nil, Nat.reduceAdd] <;> rfl)))
    | (apply Awp.sdraw; (case hn => (simp only [List.length_cons, List.length_nil, Nat.reduceAdd] <;> rfl)))
    | (refine st_nil ?_)
    | (apply st_a; (case hc => rfl); (case he => (simp only [go_sem, *] <;> rfl)); (case hu => (simp only [updL_nil, updL_cons] <;> rfl)); (case hp => first | trivial | omega | (simp; done) | (simp; omega)))
    | (apply Awp.reg; (case hn => (simp only [List.length_cons, List.length_nil, Nat.reduceAdd] <;> rfl)))
    | (refine Awp.skip ?_; try simp only [go_sem, *])
    | refine Awp.block ?_
    | (apply Awp.cond; (case hc => (simp only [go_sem, *] <;> rfl)); all_goals (intro hg; (try simp only [Bool.not_true, Bool.not_false, reduceCtorEq] at hg)))
    | refine Awp.seq ?_
    | (apply sl_a; (case hc => rfl); (case he => (simp only [go_sem, *] <;> rfl)); (case hu => (simp only [updL_nil, updL_cons] <;> rfl)); (case hl => (simp only [List.map_cons, List.map_nil] <;> rfl)); (case hp => first | trivial))
    | (apply sl_gu; (case hv => (simp only [go_sem, *] <;> rfl)))
    | (apply sl_gn; (case hv => (simp only [go_sem, *] <;> rfl)); (case hbw => rfl))
    | (apply sl_ga; (case hb => rfl); (case hv => (simp only [go_sem, *] <;> rfl)); (case he => (simp only [go_sem, *] <;> rfl)); (case hu => (simp only [updL_nil, updL_cons] <;> rfl)); (case hl => (simp only [List.map_cons, List.map_nil] <;> rfl)); (case hp => first | trivial | omega))
    | (apply sl_case; (case hv => (simp only [go_sem, *] <;> rfl)); all_goals (intro hg; (try simp only [Bool.not_true, Bool.not_false, reduceCtorEq] at hg)))
    | (refine sl_nil (And.intro (by first | exact drawOk_of (by decide +kernel) | (simp only [List.map_cons, List.map_nil]; exact drawOk_of (by decide +kernel)) | decide) ?_)))
              all_goals (try (exfalso; simp only [Bool.or_true, Bool.true_or, Bool.or_false, Bool.false_or, Bool.and_true, Bool.true_and, Bool.and_false, Bool.false_and, Bool.not_true, Bool.not_false, reduceCtorEq, *] at hA; done))
              all_goals (refine ⟨i + 1, by omega, by omega, ?_⟩; rw [hst]; dsimp only; rw [← sks_snoc]; clear hst; (apply Ghost.mk [(3, 248)] []; (case hdead => rfl); (case hinj => rfl); (case hV => (simp only [go_sem, *]) <;> (repeat' (first | refine And.intro ?_ ?_ | exact View.int (by first | rfl | exact efin | omega | (simp; done) | (rw [wrap_i64] <;> (try simp only [Int.natCast_add]) <;> omega) | (simp [*]; done)) | exact .bp rfl (by decide) | exact .own rfl (by decide)))); (case hB => (simp only [go_sem, *]) <;> (repeat' (first | refine And.intro ?_ ?_ | exact ⟨_, rfl, BView.boxF rfl⟩ | exact ⟨_, rfl, .rowE (by first | rfl | exact efin | omega | (simp; done) | (rw [wrap_i64] <;> (try simp only [Int.natCast_add]) <;> omega) | (simp [*]; done))⟩)))))
          · rw [show stepK M (R, true) x = (R ++ [x], true) from rfl] at hst
            repeat' (first
    | (apply Awp.sreg; (case hn => (simp only [List.length_cons, List.length_nil, Nat.reduceAdd] <;> rfl)))
    | (apply Awp.sdraw; (case hn => (simp only [List.length_cons, List.length_nil, Nat.reduceAdd] <;> rfl)))
    | (refine st_nil ?_)
    | (apply st_a; (case hc => rfl); (case he => (simp only [go_sem, *] <;> rfl)); (case hu => (simp only [updL_nil, updL_cons] <;> rfl)); (case hp => first | trivial | omega | (simp; done) | (simp; omega)))
    | (apply Awp.reg; (case hn => (simp only [List.length_cons, List.length_nil, Nat.reduceAdd] <;> rfl)))
    | (refine Awp.skip ?_; try simp only [go_sem, *])
    | refine Awp.block ?_
    | (apply Awp.cond; (case hc => (simp only [go_sem, *] <;> rfl)); all_goals (intro hg; (try simp only [Bool.not_true, Bool.not_false, reduceCtorEq] at hg)))
    | refine Awp.seq ?_
    | (apply sl_a; (case hc => rfl); (case he => (simp only [go_sem, *] <;> rfl)); (case hu => (simp only [updL_nil, updL_cons] <;> rfl)); (case hl => (simp only [List.map_cons, List.map_nil] <;> rfl)); (case hp => first | trivial))
    | (apply sl_gu; (case hv => (simp only [go_sem, *] <;> rfl)))
    | (apply sl_gn; (case hv => (simp only [go_sem, *] <;> rfl)); (case hbw => rfl))
    | (refine sl_nil (And.intro (by first | exact drawOk_of (by decide +kernel) | (simp only [List.map_cons, List.map_nil]; exact drawOk_of (by decide +kernel)) | decide) ?_)))
            all_goals (refine ⟨i + 1, by omega, by omega, ?_⟩; rw [hst]; dsimp only; rw [← sks_snoc]; clear hst; (apply Ghost.mk [(3, 242)] []; (case hdead => rfl); (case hinj => rfl); (case hV => (simp only [go_sem, *]) <;> (repeat' (first | refine And.intro ?_ ?_ | exact View.int (by first | rfl | omega | (simp; done) | (rw [wrap_i64] <;> (try simp only [Int.natCast_add]) <;> omega) | (simp [*]; done)) | exact .bp rfl (by decide) | exact .own rfl (by decide)))); (case hB => (simp only [go_sem, *]) <;> (repeat' (first | refine And.intro ?_ ?_ | exact ⟨_, rfl, BView.boxF rfl⟩ | exact ⟨_, rfl, .rowE (by first | rfl | omega | (simp; done) | (rw [wrap_i64] <;> (try simp only [Int.natCast_add]) <;> omega) | (simp [*]; done))⟩)))))
        · have hlt' : ¬ (i : Int) < O.length := by omega
          have e1 : O.take i = O := List.take_of_length_le (by omega)
          have hln := sks_len O
          have hrl := stepK_len M O ([], false)
          simp only [List.length_nil] at hrl
          rw [e1]
          clear e1 hlt hi
          obtain ⟨⟨R, d⟩, hR⟩ : ∃ R, O.foldl (stepK M) ([], false) = R := ⟨_, rfl⟩
          rw [hR] at hrl ⊢
          clear hR
          unfold finK
          dsimp only at hrl ⊢
          cases d
          · simp only [Bool.false_eq_true, if_false]
            rw [← sks_snoc]
            repeat' (first
    | (apply Awp.sreg; (case hn => (simp only [List.length_cons, List.length_nil, Nat.reduceAdd] <;> rfl)))
    | (refine st_nil ?_)
    | (apply st_a; (case hc => rfl); (case he => (simp only [go_sem, *] <;> rfl)); (case hu => (simp only [updL_nil, updL_cons] <;> rfl)); (case hp => first | trivial | (simp; done) | (simp; omega)))
    | (apply Awp.reg; (case hn => (simp only [List.length_cons, List.length_nil, Nat.reduceAdd] <;> rfl)))
    | (refine Awp.ret ?_; try simp only [go_sem, *])
    | (refine Awp.exit ?_; try simp only [go_sem, *])
    | (apply Awp.cond; (case hc => (simp only [go_sem, *] <;> rfl)); all_goals (intro hg; (try simp only [Bool.not_true, Bool.not_false, reduceCtorEq] at hg)))
    | refine Awp.seq ?_)
            all_goals exact ⟨_, rfl, rfl⟩
          · simp only [if_true]
            repeat' (first
    | (apply Awp.sreg; (case hn => (simp only [List.length_cons, List.length_nil, Nat.reduceAdd] <;> rfl)))
    | (refine st_nil ?_)
    | (apply st_a; (case hc => rfl); (case he => (simp only [go_sem, *] <;> rfl)); (case hu => (simp only [updL_nil, updL_cons] <;> rfl)); (case hp => first | trivial))
    | (refine Awp.ret ?_; try simp only [go_sem, *])
    | (refine Awp.skip ?_; try simp only [go_sem, *])
    | (refine Awp.exit ?_; try simp only [go_sem, *])
    | (apply Awp.cond; (case hc => (simp only [go_sem, *] <;> rfl)); all_goals (intro hg; (try simp only [Bool.not_true, Bool.not_false, reduceCtorEq] at hg)))
    | refine Awp.seq ?_)
            all_goals exact ⟨_, rfl, rfl⟩
end Go.Proofs
end
section
set_option linter.unusedVariables false
set_option linter.unusedSimpArgs false
namespace Go.Proofs
open Go Go.Ab
set_option maxHeartbeats 8000000
set_option maxRecDepth 100000
set_option linter.unusedSimpArgs false
set_option linter.unusedVariables false
attribute [local irreducible] Awp aops aopsL Go.Ab.Pure PureOwn
def hasQ (p : ByteArray) (at' : Int) (s : Sk) : Bool := (s.p.toList == p.toList) && decide (s.a ≤ at') && decide (at' < s.b)
def validB (p : ByteArray) (at' : Int) (q : Wl) : Bool := q.sk.any (hasQ p at')
def qualW (nm p : ByteArray) (at' : Int) (q : Wl) : Bool := (q.nm.toList == nm.toList) && validB p at' q
def qualB (l : List Wl) (nm p : ByteArray) (at' : Int) : Bool := l.any (qualW nm p at')
def pickN (l : List Wl) (p : ByteArray) (at' : Int) : ByteArray := match l.find? (validB p at') with
  | some q => q.nm
  | none => ⟨#[]⟩
def pickB (l : List Wl) (p : ByteArray) (at' : Int) : Bool := l.any (validB p at')
theorem any_out {α : Type} {p : α → Bool} {l : List α} {d : α} {i : Nat} (h : l.length ≤ i) (hj : ∀ j, j < i → p (l.getD j d) = false) : l.any p = false := by
  rw [List.any_eq_false]
  intro x hx
  obtain ⟨j, hjl, rfl⟩ := List.getElem_of_mem hx
  have := hj j (by omega)
  have e : l.getD j d = l[j] := by simp [List.getD_eq_getElem?_getD, hjl]
  rw [e] at this
  simp [this]
theorem find_in {α : Type} {p : α → Bool} {l : List α} {d : α} {i : Nat} (h : i < l.length) (hp : p (l.getD i d) = true) (hj : ∀ j, j < i → p (l.getD j d) = false) : l.find? p = some (l.getD i d) := by
  have e : l.getD i d = l[i] := by simp [List.getD_eq_getElem?_getD, h]
  rw [List.find?_eq_some_iff_getElem]
  refine ⟨hp, i, h, e.symm, fun j hji => ?_⟩
  have := hj j hji
  have e2 : l.getD j d = l[j] := by simp [List.getD_eq_getElem?_getD, (by omega : j < l.length)]
  rw [e2] at this
  simp [this]
theorem find_out {α : Type} {p : α → Bool} {l : List α} {d : α} {i : Nat} (h : l.length ≤ i) (hj : ∀ j, j < i → p (l.getD j d) = false) : l.find? p = none := by
  rw [List.find?_eq_none]
  intro x hx
  have := any_out h hj
  rw [List.any_eq_false] at this
  exact this x hx
theorem valid1_ok (p : ByteArray) (at' : Int) (s : Sk) : Pure Try.prog 44 [s.av, .rp [.v (.string p)], .rp [.v (.int .i64 at')]] (.v (.bool (hasQ p at' s))) := by
  unfold hasQ
  refine fn_pure Try.F44 (Nat.le_of_ble_eq_true rfl) ?_; unfold Try.ac44
  repeat' (first
    | (apply Awp.sreg; (case hn => (simp only [List.length_cons, List.length_nil, Nat.reduceAdd] <;> rfl)))
    | (refine st_nil ?_)
    | (apply st_a; (case hc => rfl); (case he => (simp only [go_sem, *] <;> rfl)); (case hu => (simp only [updL_nil, updL_cons] <;> rfl)); (case hp => first | trivial))
    | (apply st_m; (case hc => rfl); (case hg => (simp only [go_sem, *] <;> rfl)); (case he => (intro hQz; (try simp only [wantB_t, wantB_f, Bool.and_eq_true, Bool.not_eq_true', Bool.not_true, Bool.not_false, and_true, true_and] at hQz); simp only [go_sem, *] <;> rfl)); (case hp => (intro hQz; (try simp only [wantB_t, wantB_f, Bool.and_eq_true, Bool.not_eq_true', Bool.or_eq_false_iff, decide_eq_true_eq, decide_eq_false_iff_not, beq_iff_eq, beq_eq_false_iff_ne, bne_iff_ne, bne_eq_false_iff_eq, Int.not_lt, Int.not_le, Int.ofNat_lt, Int.ofNat_le] at hQz); first | trivial)))
    | (refine Awp.ret ?_; try simp only [go_sem, *]))
  all_goals repeat' (first | exact Lower.bool (by first | rfl | (simp only [true_and, Bool.true_and, Bool.false_and, Bool.and_true, Bool.and_false, Bool.true_or, Bool.false_or, reduceIte, Bool.false_eq_true, *]; done) | (simp only [true_and, reduceIte, Bool.false_eq_true, *] <;> rfl) | (simp [true_and]; done) | (simp_all [true_and]; done) | omega))
theorem indexSk_ok (l : List Sk) (g : Nat) (cs cs' : List AV) (p : Sk → Bool) (hl : l.length < 1000000) (hp : ∀ x : Sk, Pure Try.prog g [x.av, .rp cs, .rp cs'] (.v (.bool (p x)))) :
    Pure Try.prog 50 [.sl (sks l), .fn g [.rp cs, .rp cs']] (.v (.int .i64 (idxF p l))) := by
  refine fn_pure Try.F50 (Nat.le_of_ble_eq_true rfl) ?_; unfold Try.ac50
  repeat' (first
    | (apply Awp.sreg; (case hn => (simp only [List.length_cons, List.length_nil, Nat.reduceAdd] <;> rfl)))
    | (refine st_nil ?_)
    | (apply st_a; (case hc => rfl); (case he => (simp only [go_sem, *] <;> rfl)); (case hu => (simp only [updL_nil, updL_cons] <;> rfl)); (case hp => first | trivial))
    | refine Awp.block ?_
    | refine Awp.seq ?_)
  refine Awp.loop (fun i : Nat => i ≤ l.length ∧ ∀ j, j < i → p (l.getD j zeroSk) = false) 40 (fun i => mkS [(0, .sl (sks l)), (1, .fn g [.rp cs, .rp cs']), (7, .v (.int .i64 l.length)), (8, .v (.int .i64 i))] []) (fun i => l.length - i) 0 (by simp) ?_ ?_
  · (apply Ghost.mk [] []; (case hdead => rfl); (case hinj => rfl); (case hV => (simp only [go_sem, *]) <;> (repeat' (first | refine And.intro ?_ ?_ | exact View.int (by first | rfl | omega | (simp; done) | (rw [wrap_i64] <;> (try simp only [Int.natCast_add]) <;> omega) | (simp [*]; done)) | (refine View.fnF ?_; (simp [AV.flat]; done))))); (case hB => (simp only [go_sem, *]) <;> (repeat' (first | skip; done))))
  · intro i ⟨hi, hj⟩
    by_cases hlt : i < l.length
    · have hlt' : (i : Int) < l.length := by omega
      have hat := sks_at l i hlt
      have hz : ((l.getD i zeroSk).cells).length = 3 := rfl
      have hpi := hp (l.getD i zeroSk)
      repeat' (first
    | (apply Awp.sreg; (case hn => (simp only [List.length_cons, List.length_nil, Nat.reduceAdd] <;> rfl)))
    | (refine st_nil ?_)
    | (apply st_a; (case hc => rfl); (case he => (simp only [go_sem, *] <;> rfl)); (case hu => (simp only [updL_nil, updL_cons] <;> rfl)); (case hp => first | trivial | omega))
    | (apply st_c; (case hc => (simp only [go_sem, *] <;> rfl)); (case hl => (simp only [go_sem, *] <;> rfl)); (case hn => (simp only [go_sem, *] <;> rfl)); (case hp => first | exact hpi | (have hXz := hpi; simp only [go_sem, *] at hXz; exact hXz)))
    | (apply Awp.reg; (case hn => (simp only [List.length_cons, List.length_nil, Nat.reduceAdd] <;> rfl)))
    | (refine Awp.ret ?_; try simp only [go_sem, *])
    | (refine Awp.skip ?_; try simp only [go_sem, *])
    | refine Awp.block ?_
    | (apply Awp.cond; (case hc => (simp only [go_sem, *] <;> rfl)); all_goals (intro hg; (try simp only [Bool.not_true, Bool.not_false, reduceCtorEq] at hg)))
    | refine Awp.seq ?_)
      · exact Lower.int (idxF_in hlt hg hj).symm
      · refine ⟨i + 1, ⟨by omega, ltSucc hj hg⟩, by omega, ?_⟩
        (apply Ghost.mk [] []; (case hdead => rfl); (case hinj => rfl); (case hV => (simp only [go_sem, *]) <;> (repeat' (first | refine And.intro ?_ ?_ | exact View.int (by first | rfl | omega | (simp; done) | (rw [wrap_i64] <;> (try simp only [Int.natCast_add]) <;> omega) | (simp [*]; done)) | (refine View.fnF ?_; (simp [AV.flat]; done))))); (case hB => (simp only [go_sem, *]) <;> (repeat' (first | skip; done))))
    · have hlt' : ¬ (i : Int) < l.length := by omega
      repeat' (first
    | (apply Awp.sreg; (case hn => (simp only [List.length_cons, List.length_nil, Nat.reduceAdd] <;> rfl)))
    | (refine st_nil ?_)
    | (apply st_a; (case hc => rfl); (case he => (simp only [go_sem, *] <;> rfl)); (case hu => (simp only [updL_nil, updL_cons] <;> rfl)); (case hp => first | trivial))
    | (refine Awp.ret ?_; try simp only [go_sem, *])
    | (refine Awp.exit ?_; try simp only [go_sem, *])
    | (apply Awp.cond; (case hc => (simp only [go_sem, *] <;> rfl)); all_goals (intro hg; (try simp only [Bool.not_true, Bool.not_false, reduceCtorEq] at hg); (try have hg' := hg); (try simp only [decide_eq_true_eq, decide_eq_false_iff_not, Bool.and_eq_true, Bool.or_eq_false_iff, bne_iff_ne, bne_eq_false_iff_eq, beq_iff_eq, beq_eq_false_iff_ne, Int.not_lt, Int.not_le, Int.ofNat_lt, Int.ofNat_le, Int.natCast_inj] at hg')))
    | refine Awp.seq ?_)
      exact Lower.int (idxF_out (Nat.le_of_not_lt hlt) hj).symm
theorem containsSk_ok (l : List Sk) (g : Nat) (cs cs' : List AV) (p : Sk → Bool) (hl : l.length < 1000000) (hp : ∀ x : Sk, Pure Try.prog g [x.av, .rp cs, .rp cs'] (.v (.bool (p x)))) :
    Pure Try.prog 43 [.sl (sks l), .fn g [.rp cs, .rp cs']] (.v (.bool (l.any p))) := by
  have h := indexSk_ok l g cs cs' p hl hp
  rw [← idxF_any]
  refine fn_pure Try.F43 (Nat.le_of_ble_eq_true rfl) ?_; unfold Try.ac43
  repeat' (first
    | (apply Awp.sreg; (case hn => (simp only [List.length_cons, List.length_nil, Nat.reduceAdd] <;> rfl)))
    | (refine st_nil ?_)
    | (apply st_a; (case hc => rfl); (case he => (simp only [go_sem, *] <;> rfl)); (case hu => (simp only [updL_nil, updL_cons] <;> rfl)); (case hp => first | trivial))
    | (apply st_c; (case hc => (simp only [go_sem, *] <;> rfl)); (case hl => (simp only [go_sem, *] <;> rfl)); (case hn => (simp only [go_sem, *] <;> rfl)); (case hp => first | exact h | (have hXz := h; simp only [go_sem, *] at hXz; exact hXz)))
    | (refine Awp.ret ?_; try simp only [go_sem, *]))
  all_goals repeat' (first | exact Lower.bool (by first | rfl | (simp only [true_and, Bool.true_and, Bool.false_and, Bool.and_true, Bool.and_false, Bool.true_or, Bool.false_or, reduceIte, Bool.false_eq_true, *]; done) | (simp only [true_and, reduceIte, Bool.false_eq_true, *] <;> rfl) | (simp [true_and]; done) | (simp_all [true_and]; done) | omega))
theorem valid_ok (q : Wl) (p : ByteArray) (at' : Int) (hl : q.sk.length < 1000000) : Pure Try.prog 31 [q.av, .v (.string p), .v (.int .i64 at')] (.v (.bool (validB p at' q))) := by
  have h := containsSk_ok q.sk 44 [.v (.string p)] [.v (.int .i64 at')] (hasQ p at') hl (valid1_ok p at')
  unfold validB
  refine fn_pure Try.F31 (Nat.le_of_ble_eq_true rfl) ?_; unfold Try.ac31
  repeat' (first
    | (apply Awp.sreg; (case hn => (simp only [List.length_cons, List.length_nil, Nat.reduceAdd] <;> rfl)))
    | (refine st_nil ?_)
    | (apply st_a; (case hc => rfl); (case he => (simp only [go_sem, *] <;> rfl)); (case hu => (simp only [updL_nil, updL_cons] <;> rfl)); (case hp => first | trivial))
    | (apply st_cd; (case hc => (simp only [go_sem, *] <;> rfl)); (case hl => (simp only [go_sem, *] <;> rfl)); (case hn => (simp only [go_sem, *] <;> rfl)); (case hp => first | exact h | (have hXz := h; simp only [go_sem, *] at hXz; exact hXz)); (case hd => first | exact .v _ | exact .any | exact .nils | (repeat' (first | exact Dry.v _ | exact Dry.any | exact Dry.nils | exact Dry.slE | refine Dry.agg ?_ | refine Dry.tup ?_ | (refine List.forall_mem_cons.2 (And.intro ?_ ?_)) | (intro cQ hQ; cases hQ; done)))); (case hm => first | decide | (simp; done)))
    | (refine Awp.ret ?_; try simp only [go_sem, *]))
  all_goals repeat' (first | exact Lower.bool (by first | rfl | (simp only [true_and, Bool.true_and, Bool.false_and, Bool.and_true, Bool.and_false, Bool.true_or, Bool.false_or, reduceIte, Bool.false_eq_true, *]; done) | (simp only [true_and, reduceIte, Bool.false_eq_true, *] <;> rfl) | (simp [true_and]; done) | (simp_all [true_and]; done) | omega))
theorem able_ok (q : Wl) (p : ByteArray) (at' : Int) (hl : q.sk.length < 1000000) : Pure Try.prog 32 [q.av, .v (.string p), .v (.int .i64 at')] (.v (.bool (validB p at' q))) := by
  unfold validB
  refine fn_pure Try.F32 (Nat.le_of_ble_eq_true rfl) ?_; unfold Try.ac32
  repeat' (first
    | (apply Awp.sreg; (case hn => (simp only [List.length_cons, List.length_nil, Nat.reduceAdd] <;> rfl)))
    | (refine st_nil ?_)
    | (apply st_a; (case hc => rfl); (case he => (simp only [go_sem, *] <;> rfl)); (case hu => (simp only [updL_nil, updL_cons] <;> rfl)); (case hp => first | trivial))
    | refine Awp.block ?_
    | refine Awp.seq ?_)
  refine Awp.loop (fun i : Nat => i ≤ q.sk.length ∧ ∀ j, j < i → hasQ p at' (q.sk.getD j zeroSk) = false) 40 (fun i => mkS [(1, .v (.string p)), (2, .v (.int .i64 at')), (3, .bp 0 0), (7, .v (.int .i64 i))] [(0, .box q.cells)]) (fun i => q.sk.length - i) 0 (by simp) ?_ ?_
  · (apply Ghost.mk [(0, 0)] []; (case hdead => rfl); (case hinj => rfl); (case hV => (simp only [go_sem, *]) <;> (repeat' (first | refine And.intro ?_ ?_ | exact View.int (by first | rfl | omega | (simp; done) | (rw [wrap_i64] <;> (try simp only [Int.natCast_add]) <;> omega) | (simp [*]; done)) | exact .bp rfl (by decide)))); (case hB => (simp only [go_sem, *]) <;> (repeat' (first | exact ⟨_, rfl, BView.boxF rfl⟩))))
  · intro i ⟨hi, hj⟩
    by_cases hlt : i < q.sk.length
    · have hlt' : (i : Int) < q.sk.length := by omega
      have hat := sks_at q.sk i hlt
      have hz : ((q.sk.getD i zeroSk).cells).length = 3 := rfl
      cases hv : hasQ p at' (q.sk.getD i zeroSk)
      · have hnx := ltSucc (P := fun j => hasQ p at' (q.sk.getD j zeroSk) = false) hj hv
        clear hj
        unfold hasQ at hv
        repeat' (first
    | (apply Awp.sreg; (case hn => (simp only [List.length_cons, List.length_nil, Nat.reduceAdd] <;> rfl)))
    | (refine st_nil ?_)
    | (apply st_a; (case hc => rfl); (case he => (simp only [go_sem, *] <;> rfl)); (case hu => (simp only [updL_nil, updL_cons] <;> rfl)); (case hp => first | trivial | omega))
    | (apply st_m; (case hc => rfl); (case hg => (simp only [go_sem, *] <;> rfl)); (case he => (intro hQz; (try simp only [wantB_t, wantB_f, Bool.and_eq_true, Bool.not_eq_true', Bool.not_true, Bool.not_false, and_true, true_and] at hQz); simp only [go_sem, *] <;> rfl)); (case hp => (intro hQz; (try simp only [wantB_t, wantB_f, Bool.and_eq_true, Bool.not_eq_true', Bool.or_eq_false_iff, decide_eq_true_eq, decide_eq_false_iff_not, beq_iff_eq, beq_eq_false_iff_ne, bne_iff_ne, bne_eq_false_iff_eq, Int.not_lt, Int.not_le, Int.ofNat_lt, Int.ofNat_le] at hQz); first | trivial)))
    | (apply Awp.reg; (case hn => (simp only [List.length_cons, List.length_nil, Nat.reduceAdd] <;> rfl)))
    | (refine Awp.skip ?_; try simp only [go_sem, *])
    | refine Awp.block ?_
    | (apply Awp.cond; (case hc => (simp only [go_sem, *] <;> rfl)); all_goals (intro hg; (try simp only [Bool.not_true, Bool.not_false, reduceCtorEq] at hg)))
    | refine Awp.seq ?_)
        all_goals (refine ⟨i + 1, ⟨by omega, hnx⟩, by omega, ?_⟩; (apply Ghost.mk [(0, 0)] []; (case hdead => rfl); (case hinj => rfl); (case hV => (simp only [go_sem, *]) <;> (repeat' (first | refine And.intro ?_ ?_ | exact View.int (by first | rfl | omega | (simp; done) | (rw [wrap_i64] <;> (try simp only [Int.natCast_add]) <;> omega) | (simp [*]; done)) | exact .bp rfl (by decide)))); (case hB => (simp only [go_sem, *]) <;> (repeat' (first | exact ⟨_, rfl, BView.boxF rfl⟩)))))
      · have hf := any_in (p := hasQ p at') hlt hv
        clear hj
        unfold hasQ at hv
        repeat' (first
    | (apply Awp.sreg; (case hn => (simp only [List.length_cons, List.length_nil, Nat.reduceAdd] <;> rfl)))
    | (refine st_nil ?_)
    | (apply st_a; (case hc => rfl); (case he => (simp only [go_sem, *] <;> rfl)); (case hu => (simp only [updL_nil, updL_cons] <;> rfl)); (case hp => first | trivial | omega))
    | (apply st_m; (case hc => rfl); (case hg => (simp only [go_sem, *] <;> rfl)); (case he => (intro hQz; (try simp only [wantB_t, wantB_f, Bool.and_eq_true, Bool.not_eq_true', Bool.not_true, Bool.not_false, and_true, true_and] at hQz); simp only [go_sem, *] <;> rfl)); (case hp => (intro hQz; (try simp only [wantB_t, wantB_f, Bool.and_eq_true, Bool.not_eq_true', Bool.or_eq_false_iff, decide_eq_true_eq, decide_eq_false_iff_not, beq_iff_eq, beq_eq_false_iff_ne, bne_iff_ne, bne_eq_false_iff_eq, Int.not_lt, Int.not_le, Int.ofNat_lt, Int.ofNat_le] at hQz); first | trivial)))
    | (refine Awp.ret ?_; try simp only [go_sem, *])
    | (refine Awp.skip ?_; try simp only [go_sem, *])
    | refine Awp.block ?_
    | (apply Awp.cond; (case hc => (simp only [go_sem, *] <;> rfl)); all_goals (intro hg; (try simp only [Bool.not_true, Bool.not_false, reduceCtorEq] at hg)))
    | refine Awp.seq ?_)
        all_goals repeat' (first | exact Lower.bool (by first | rfl | (simp only [true_and, Bool.true_and, Bool.false_and, Bool.and_true, Bool.and_false, Bool.true_or, Bool.false_or, reduceIte, Bool.false_eq_true, *]; done) | (simp only [true_and, reduceIte, Bool.false_eq_true, *] <;> rfl) | (simp [true_and]; done) | (simp_all [true_and]; done) | omega))
    · have hlt' : ¬ (i : Int) < q.sk.length := by omega
      have hf := any_out (p := hasQ p at') (Nat.le_of_not_lt hlt) hj
      clear hj
      repeat' (first
    | (apply Awp.sreg; (case hn => (simp only [List.length_cons, List.length_nil, Nat.reduceAdd] <;> rfl)))
    | (refine st_nil ?_)
    | (apply st_a; (case hc => rfl); (case he => (simp only [go_sem, *] <;> rfl)); (case hu => (simp only [updL_nil, updL_cons] <;> rfl)); (case hp => first | trivial))
    | (refine Awp.ret ?_; try simp only [go_sem, *])
    | (refine Awp.exit ?_; try simp only [go_sem, *])
    | (apply Awp.cond; (case hc => (simp only [go_sem, *] <;> rfl)); all_goals (intro hg; (try simp only [Bool.not_true, Bool.not_false, reduceCtorEq] at hg)))
    | refine Awp.seq ?_)
      all_goals repeat' (first | exact Lower.bool (by first | rfl | (simp only [true_and, Bool.true_and, Bool.false_and, Bool.and_true, Bool.and_false, Bool.true_or, Bool.false_or, reduceIte, Bool.false_eq_true, *]; done) | (simp only [true_and, reduceIte, Bool.false_eq_true, *] <;> rfl) | (simp [true_and]; done) | (simp_all [true_and]; done) | omega))
theorem qual1_ok (nm p : ByteArray) (at' : Int) (q : Wl) (hl : q.sk.length < 1000000) : Pure Try.prog 34 [q.av, .rp [.v (.string nm)], .rp [.v (.string p)], .rp [.v (.int .i64 at')]] (.v (.bool (qualW nm p at' q))) := by
  have c0 := valid_ok q p at' hl
  unfold qualW
  cases h : (q.nm.toList == nm.toList)
  · refine fn_pure Try.F34 (Nat.le_of_ble_eq_true rfl) ?_; unfold Try.ac34
    repeat' (first
    | (apply Awp.sreg; (case hn => (simp only [List.length_cons, List.length_nil, Nat.reduceAdd] <;> rfl)))
    | (refine st_nil ?_)
    | (apply st_a; (case hc => rfl); (case he => (simp only [go_sem, *] <;> rfl)); (case hu => (simp only [updL_nil, updL_cons] <;> rfl)); (case hp => first | trivial))
    | (apply st_m; (case hc => rfl); (case hg => (simp only [go_sem, *] <;> rfl)); (case he => (intro hQz; (try simp only [wantB_t, wantB_f, Bool.and_eq_true, Bool.not_eq_true', Bool.not_true, Bool.not_false, and_true, true_and] at hQz); simp only [go_sem, *] <;> rfl)); (case hp => (intro hQz; (try simp only [wantB_t, wantB_f, Bool.and_eq_true, Bool.not_eq_true', Bool.or_eq_false_iff, decide_eq_true_eq, decide_eq_false_iff_not, beq_iff_eq, beq_eq_false_iff_ne, bne_iff_ne, bne_eq_false_iff_eq, Int.not_lt, Int.not_le, Int.ofNat_lt, Int.ofNat_le] at hQz); first | trivial)))
    | (apply st_g; (case hv => (simp only [go_sem, *] <;> rfl)); all_goals (intro hg; (try simp only [Bool.not_true, Bool.not_false, reduceCtorEq] at hg)))
    | (refine Awp.ret ?_; try simp only [go_sem, *]))
    all_goals repeat' (first | exact Lower.bool (by first | rfl | (simp only [true_and, Bool.true_and, Bool.false_and, Bool.and_true, Bool.and_false, Bool.true_or, Bool.false_or, reduceIte, Bool.false_eq_true, *]; done) | (simp only [true_and, reduceIte, Bool.false_eq_true, *] <;> rfl) | (simp [true_and]; done) | (simp_all [true_and]; done) | omega))
  · refine fn_pure Try.F34 (Nat.le_of_ble_eq_true rfl) ?_; unfold Try.ac34
    repeat' (first
    | (apply Awp.sreg; (case hn => (simp only [List.length_cons, List.length_nil, Nat.reduceAdd] <;> rfl)))
    | (refine st_nil ?_)
    | (apply st_a; (case hc => rfl); (case he => (simp only [go_sem, *] <;> rfl)); (case hu => (simp only [updL_nil, updL_cons] <;> rfl)); (case hp => first | trivial))
    | (apply st_m; (case hc => rfl); (case hg => (simp only [go_sem, *] <;> rfl)); (case he => (intro hQz; (try simp only [wantB_t, wantB_f, Bool.and_eq_true, Bool.not_eq_true', Bool.not_true, Bool.not_false, and_true, true_and] at hQz); simp only [go_sem, *] <;> rfl)); (case hp => (intro hQz; (try simp only [wantB_t, wantB_f, Bool.and_eq_true, Bool.not_eq_true', Bool.or_eq_false_iff, decide_eq_true_eq, decide_eq_false_iff_not, beq_iff_eq, beq_eq_false_iff_ne, bne_iff_ne, bne_eq_false_iff_eq, Int.not_lt, Int.not_le, Int.ofNat_lt, Int.ofNat_le] at hQz); first | trivial)))
    | (apply st_mc; (case hop => rfl); (case hg => (simp only [go_sem, *] <;> rfl)); (case hc => (intro hQz; (try simp only [wantB_t, wantB_f, Bool.and_eq_true, Bool.not_eq_true', Bool.not_true, Bool.not_false, and_true, true_and] at hQz); simp only [go_sem, *] <;> rfl)); (case hl => (intro hQz; (try simp only [wantB_t, wantB_f, Bool.and_eq_true, Bool.not_eq_true', Bool.not_true, Bool.not_false, and_true, true_and] at hQz); simp only [go_sem, *] <;> rfl)); (case hn => (intro hQz; (try simp only [wantB_t, wantB_f, Bool.and_eq_true, Bool.not_eq_true', Bool.not_true, Bool.not_false, and_true, true_and] at hQz); simp only [go_sem, *] <;> rfl)); (case hp => intro hQz; first | exact c0 | (have hXz := c0; simp only [go_sem, *] at hXz; exact hXz)))
    | (refine Awp.ret ?_; try simp only [go_sem, *]))
    all_goals repeat' (first | exact Lower.bool (by first | rfl | (simp only [true_and, Bool.true_and, Bool.false_and, Bool.and_true, Bool.and_false, Bool.true_or, Bool.false_or, reduceIte, Bool.false_eq_true, *]; done) | (simp only [true_and, reduceIte, Bool.false_eq_true, *] <;> rfl) | (simp [true_and]; done) | (simp_all [true_and]; done) | omega))
theorem indexWl1_ok (l : List Wl) (g : Nat) (cs : List AV) (p : Wl → Bool) (hl : l.length < 1000000) (hp : ∀ i, i < l.length → Pure Try.prog g ((l.getD i zeroWl).av :: [.rp cs]) (.v (.bool (p (l.getD i zeroWl))))) :
    Pure Try.prog 35 [.sl (wls l), .fn g [.rp cs]] (.v (.int .i64 (idxF p l))) := by
  refine fn_pure Try.F35 (Nat.le_of_ble_eq_true rfl) ?_; unfold Try.ac35
  repeat' (first
    | (apply Awp.sreg; (case hn => (simp only [List.length_cons, List.length_nil, Nat.reduceAdd] <;> rfl)))
    | (refine st_nil ?_)
    | (apply st_a; (case hc => rfl); (case he => (simp only [go_sem, *] <;> rfl)); (case hu => (simp only [updL_nil, updL_cons] <;> rfl)); (case hp => first | trivial))
    | refine Awp.block ?_
    | refine Awp.seq ?_)
  refine Awp.loop (fun i : Nat => i ≤ l.length ∧ ∀ j, j < i → p (l.getD j zeroWl) = false) 40 (fun i => mkS [(0, .sl (wls l)), (1, .fn g [.rp cs]), (7, .v (.int .i64 l.length)), (8, .v (.int .i64 i))] []) (fun i => l.length - i) 0 (by simp) ?_ ?_
  · (apply Ghost.mk [] []; (case hdead => rfl); (case hinj => rfl); (case hV => (simp only [go_sem, *]) <;> (repeat' (first | refine And.intro ?_ ?_ | exact View.int (by first | rfl | omega | (simp; done) | (rw [wrap_i64] <;> (try simp only [Int.natCast_add]) <;> omega) | (simp [*]; done)) | (refine View.fnF ?_; (simp [AV.flat]; done))))); (case hB => (simp only [go_sem, *]) <;> (repeat' (first | skip; done))))
  · intro i ⟨hi, hj⟩
    by_cases hlt : i < l.length
    · have hlt' : (i : Int) < l.length := by omega
      have hat := wls_at l i hlt
      have hz : ((l.getD i zeroWl).cells).length = 2 := rfl
      have hpi := hp i hlt
      clear hp
      repeat' (first
    | (apply Awp.sreg; (case hn => (simp only [List.length_cons, List.length_nil, Nat.reduceAdd] <;> rfl)))
    | (refine st_nil ?_)
    | (apply st_a; (case hc => rfl); (case he => (simp only [go_sem, *] <;> rfl)); (case hu => (simp only [updL_nil, updL_cons] <;> rfl)); (case hp => first | trivial | omega))
    | (apply st_c; (case hc => (simp only [go_sem, *] <;> rfl)); (case hl => (simp only [go_sem, *] <;> rfl)); (case hn => (simp only [go_sem, *] <;> rfl)); (case hp => first | exact hpi | (have hXz := hpi; simp only [go_sem, *] at hXz; exact hXz)))
    | (apply Awp.reg; (case hn => (simp only [List.length_cons, List.length_nil, Nat.reduceAdd] <;> rfl)))
    | (refine Awp.ret ?_; try simp only [go_sem, *])
    | (refine Awp.skip ?_; try simp only [go_sem, *])
    | refine Awp.block ?_
    | (apply Awp.cond; (case hc => (simp only [go_sem, *] <;> rfl)); all_goals (intro hg; (try simp only [Bool.not_true, Bool.not_false, reduceCtorEq] at hg)))
    | refine Awp.seq ?_)
      · exact Lower.int (idxF_in hlt hg hj).symm
      · refine ⟨i + 1, ⟨by omega, ltSucc hj hg⟩, by omega, ?_⟩
        (apply Ghost.mk [] []; (case hdead => rfl); (case hinj => rfl); (case hV => (simp only [go_sem, *]) <;> (repeat' (first | refine And.intro ?_ ?_ | exact View.int (by first | rfl | omega | (simp; done) | (rw [wrap_i64] <;> (try simp only [Int.natCast_add]) <;> omega) | (simp [*]; done)) | (refine View.fnF ?_; (simp [AV.flat]; done))))); (case hB => (simp only [go_sem, *]) <;> (repeat' (first | skip; done))))
    · have hlt' : ¬ (i : Int) < l.length := by omega
      repeat' (first
    | (apply Awp.sreg; (case hn => (simp only [List.length_cons, List.length_nil, Nat.reduceAdd] <;> rfl)))
    | (refine st_nil ?_)
    | (apply st_a; (case hc => rfl); (case he => (simp only [go_sem, *] <;> rfl)); (case hu => (simp only [updL_nil, updL_cons] <;> rfl)); (case hp => first | trivial))
    | (refine Awp.ret ?_; try simp only [go_sem, *])
    | (refine Awp.exit ?_; try simp only [go_sem, *])
    | (apply Awp.cond; (case hc => (simp only [go_sem, *] <;> rfl)); all_goals (intro hg; (try simp only [Bool.not_true, Bool.not_false, reduceCtorEq] at hg); (try have hg' := hg); (try simp only [decide_eq_true_eq, decide_eq_false_iff_not, Bool.and_eq_true, Bool.or_eq_false_iff, bne_iff_ne, bne_eq_false_iff_eq, beq_iff_eq, beq_eq_false_iff_ne, Int.not_lt, Int.not_le, Int.ofNat_lt, Int.ofNat_le, Int.natCast_inj] at hg')))
    | refine Awp.seq ?_)
      exact Lower.int (idxF_out (Nat.le_of_not_lt hlt) hj).symm
theorem indexWl3_ok (l : List Wl) (g : Nat) (cs ct cu : List AV) (p : Wl → Bool) (hl : l.length < 1000000) (hp : ∀ i, i < l.length → Pure Try.prog g ((l.getD i zeroWl).av :: [.rp cs, .rp ct, .rp cu]) (.v (.bool (p (l.getD i zeroWl))))) :
    Pure Try.prog 35 [.sl (wls l), .fn g [.rp cs, .rp ct, .rp cu]] (.v (.int .i64 (idxF p l))) := by
  refine fn_pure Try.F35 (Nat.le_of_ble_eq_true rfl) ?_; unfold Try.ac35
  repeat' (first
    | (apply Awp.sreg; (case hn => (simp only [List.length_cons, List.length_nil, Nat.reduceAdd] <;> rfl)))
    | (refine st_nil ?_)
    | (apply st_a; (case hc => rfl); (case he => (simp only [go_sem, *] <;> rfl)); (case hu => (simp only [updL_nil, updL_cons] <;> rfl)); (case hp => first | trivial))
    | refine Awp.block ?_
    | refine Awp.seq ?_)
  refine Awp.loop (fun i : Nat => i ≤ l.length ∧ ∀ j, j < i → p (l.getD j zeroWl) = false) 40 (fun i => mkS [(0, .sl (wls l)), (1, .fn g [.rp cs, .rp ct, .rp cu]), (7, .v (.int .i64 l.length)), (8, .v (.int .i64 i))] []) (fun i => l.length - i) 0 (by simp) ?_ ?_
  · (apply Ghost.mk [] []; (case hdead => rfl); (case hinj => rfl); (case hV => (simp only [go_sem, *]) <;> (repeat' (first | refine And.intro ?_ ?_ | exact View.int (by first | rfl | omega | (simp; done) | (rw [wrap_i64] <;> (try simp only [Int.natCast_add]) <;> omega) | (simp [*]; done)) | (refine View.fnF ?_; (simp [AV.flat]; done))))); (case hB => (simp only [go_sem, *]) <;> (repeat' (first | skip; done))))
  · intro i ⟨hi, hj⟩
    by_cases hlt : i < l.length
    · have hlt' : (i : Int) < l.length := by omega
      have hat := wls_at l i hlt
      have hz : ((l.getD i zeroWl).cells).length = 2 := rfl
      have hpi := hp i hlt
      clear hp
      repeat' (first
    | (apply Awp.sreg; (case hn => (simp only [List.length_cons, List.length_nil, Nat.reduceAdd] <;> rfl)))
    | (refine st_nil ?_)
    | (apply st_a; (case hc => rfl); (case he => (simp only [go_sem, *] <;> rfl)); (case hu => (simp only [updL_nil, updL_cons] <;> rfl)); (case hp => first | trivial | omega))
    | (apply st_c; (case hc => (simp only [go_sem, *] <;> rfl)); (case hl => (simp only [go_sem, *] <;> rfl)); (case hn => (simp only [go_sem, *] <;> rfl)); (case hp => first | exact hpi | (have hXz := hpi; simp only [go_sem, *] at hXz; exact hXz)))
    | (apply Awp.reg; (case hn => (simp only [List.length_cons, List.length_nil, Nat.reduceAdd] <;> rfl)))
    | (refine Awp.ret ?_; try simp only [go_sem, *])
    | (refine Awp.skip ?_; try simp only [go_sem, *])
    | refine Awp.block ?_
    | (apply Awp.cond; (case hc => (simp only [go_sem, *] <;> rfl)); all_goals (intro hg; (try simp only [Bool.not_true, Bool.not_false, reduceCtorEq] at hg)))
    | refine Awp.seq ?_)
      · exact Lower.int (idxF_in hlt hg hj).symm
      · refine ⟨i + 1, ⟨by omega, ltSucc hj hg⟩, by omega, ?_⟩
        (apply Ghost.mk [] []; (case hdead => rfl); (case hinj => rfl); (case hV => (simp only [go_sem, *]) <;> (repeat' (first | refine And.intro ?_ ?_ | exact View.int (by first | rfl | omega | (simp; done) | (rw [wrap_i64] <;> (try simp only [Int.natCast_add]) <;> omega) | (simp [*]; done)) | (refine View.fnF ?_; (simp [AV.flat]; done))))); (case hB => (simp only [go_sem, *]) <;> (repeat' (first | skip; done))))
    · have hlt' : ¬ (i : Int) < l.length := by omega
      repeat' (first
    | (apply Awp.sreg; (case hn => (simp only [List.length_cons, List.length_nil, Nat.reduceAdd] <;> rfl)))
    | (refine st_nil ?_)
    | (apply st_a; (case hc => rfl); (case he => (simp only [go_sem, *] <;> rfl)); (case hu => (simp only [updL_nil, updL_cons] <;> rfl)); (case hp => first | trivial))
    | (refine Awp.ret ?_; try simp only [go_sem, *])
    | (refine Awp.exit ?_; try simp only [go_sem, *])
    | (apply Awp.cond; (case hc => (simp only [go_sem, *] <;> rfl)); all_goals (intro hg; (try simp only [Bool.not_true, Bool.not_false, reduceCtorEq] at hg); (try have hg' := hg); (try simp only [decide_eq_true_eq, decide_eq_false_iff_not, Bool.and_eq_true, Bool.or_eq_false_iff, bne_iff_ne, bne_eq_false_iff_eq, beq_iff_eq, beq_eq_false_iff_ne, Int.not_lt, Int.not_le, Int.ofNat_lt, Int.ofNat_le, Int.natCast_inj] at hg')))
    | refine Awp.seq ?_)
      exact Lower.int (idxF_out (Nat.le_of_not_lt hlt) hj).symm
theorem containsWl3_ok (l : List Wl) (g : Nat) (cs ct cu : List AV) (p : Wl → Bool) (hl : l.length < 1000000) (hp : ∀ i, i < l.length → Pure Try.prog g ((l.getD i zeroWl).av :: [.rp cs, .rp ct, .rp cu]) (.v (.bool (p (l.getD i zeroWl))))) :
    Pure Try.prog 33 [.sl (wls l), .fn g [.rp cs, .rp ct, .rp cu]] (.v (.bool (l.any p))) := by
  have h := indexWl3_ok l g cs ct cu p hl hp
  rw [← idxF_any]
  refine fn_pure Try.F33 (Nat.le_of_ble_eq_true rfl) ?_; unfold Try.ac33
  repeat' (first
    | (apply Awp.sreg; (case hn => (simp only [List.length_cons, List.length_nil, Nat.reduceAdd] <;> rfl)))
    | (refine st_nil ?_)
    | (apply st_a; (case hc => rfl); (case he => (simp only [go_sem, *] <;> rfl)); (case hu => (simp only [updL_nil, updL_cons] <;> rfl)); (case hp => first | trivial))
    | (apply st_c; (case hc => (simp only [go_sem, *] <;> rfl)); (case hl => (simp only [go_sem, *] <;> rfl)); (case hn => (simp only [go_sem, *] <;> rfl)); (case hp => first | exact h | (have hXz := h; simp only [go_sem, *] at hXz; exact hXz)))
    | (refine Awp.ret ?_; try simp only [go_sem, *]))
  all_goals repeat' (first | exact Lower.bool (by first | rfl | (simp only [true_and, Bool.true_and, Bool.false_and, Bool.and_true, Bool.and_false, Bool.true_or, Bool.false_or, reduceIte, Bool.false_eq_true, *]; done) | (simp only [true_and, reduceIte, Bool.false_eq_true, *] <;> rfl) | (simp [true_and]; done) | (simp_all [true_and]; done) | omega))
theorem qualified_ok (l : List Wl) (nm p : ByteArray) (at' : Int) (hl : l.length < 1000000) (hsk : ∀ i, i < l.length → (l.getD i zeroWl).sk.length < 1000000) :
    Pure Try.prog 18 [.sl (wls l), .v (.string nm), .v (.string p), .v (.int .i64 at')] (.v (.bool (qualB l nm p at'))) := by
  have h := containsWl3_ok l 34 [.v (.string nm)] [.v (.string p)] [.v (.int .i64 at')] (qualW nm p at') hl (fun i hi => qual1_ok nm p at' _ (hsk i hi))
  unfold qualB
  refine fn_pure Try.F18 (Nat.le_of_ble_eq_true rfl) ?_; unfold Try.ac18
  repeat' (first
    | (apply Awp.sreg; (case hn => (simp only [List.length_cons, List.length_nil, Nat.reduceAdd] <;> rfl)))
    | (refine st_nil ?_)
    | (apply st_a; (case hc => rfl); (case he => (simp only [go_sem, *] <;> rfl)); (case hu => (simp only [updL_nil, updL_cons] <;> rfl)); (case hp => first | trivial))
    | (apply st_cd; (case hc => (simp only [go_sem, *] <;> rfl)); (case hl => (simp only [go_sem, *] <;> rfl)); (case hn => (simp only [go_sem, *] <;> rfl)); (case hp => first | exact h | (have hXz := h; simp only [go_sem, *] at hXz; exact hXz)); (case hd => first | exact .v _ | exact .any | exact .nils | (repeat' (first | exact Dry.v _ | exact Dry.any | exact Dry.nils | exact Dry.slE | refine Dry.agg ?_ | refine Dry.tup ?_ | (refine List.forall_mem_cons.2 (And.intro ?_ ?_)) | (intro cQ hQ; cases hQ; done)))); (case hm => first | decide | (simp; done)))
    | (refine Awp.ret ?_; try simp only [go_sem, *]))
  all_goals repeat' (first | exact Lower.bool (by first | rfl | (simp only [true_and, Bool.true_and, Bool.false_and, Bool.and_true, Bool.and_false, Bool.true_or, Bool.false_or, reduceIte, Bool.false_eq_true, *]; done) | (simp only [true_and, reduceIte, Bool.false_eq_true, *] <;> rfl) | (simp [true_and]; done) | (simp_all [true_and]; done) | omega))
theorem rqualified_ok (l : List Wl) (nm p : ByteArray) (at' : Int) (hl : l.length < 1000000) (hsk : ∀ i, i < l.length → (l.getD i zeroWl).sk.length < 1000000) :
    Pure Try.prog 19 [.sl (wls l), .v (.string nm), .v (.string p), .v (.int .i64 at')] (.v (.bool (qualB l nm p at'))) := by
  unfold qualB
  refine fn_pure Try.F19 (Nat.le_of_ble_eq_true rfl) ?_; unfold Try.ac19
  repeat' (first
    | (apply Awp.sreg; (case hn => (simp only [List.length_cons, List.length_nil, Nat.reduceAdd] <;> rfl)))
    | (refine st_nil ?_)
    | (apply st_a; (case hc => rfl); (case he => (simp only [go_sem, *] <;> rfl)); (case hu => (simp only [updL_nil, updL_cons] <;> rfl)); (case hp => first | trivial))
    | refine Awp.block ?_
    | refine Awp.seq ?_)
  refine Awp.loop (fun i : Nat => i ≤ l.length ∧ ∀ j, j < i → qualW nm p at' (l.getD j zeroWl) = false) 40 (fun i => mkS [(0, .sl (wls l)), (1, .v (.string nm)), (2, .v (.string p)), (3, .v (.int .i64 at')), (9, .v (.int .i64 i))] []) (fun i => l.length - i) 0 (by simp) ?_ ?_
  · (apply Ghost.mk [] []; (case hdead => rfl); (case hinj => rfl); (case hV => (simp only [go_sem, *]) <;> (repeat' (first | exact View.int (by first | rfl | omega | (simp; done) | (rw [wrap_i64] <;> (try simp only [Int.natCast_add]) <;> omega) | (simp [*]; done))))); (case hB => (simp only [go_sem, *]) <;> (repeat' (first | skip; done))))
  · intro i ⟨hi, hj⟩
    by_cases hlt : i < l.length
    · have hlt' : (i : Int) < l.length := by omega
      have hat := wls_at l i hlt
      have hz : ((l.getD i zeroWl).cells).length = 2 := rfl
      have c0 := able_ok (l.getD i zeroWl) p at' (hsk i hlt)
      have hv : qualW nm p at' (l.getD i zeroWl) = ((l.getD i zeroWl).nm.toList == nm.toList && validB p at' (l.getD i zeroWl)) := rfl
      clear hsk
      cases h1 : ((l.getD i zeroWl).nm.toList == nm.toList)
      · rw [h1, Bool.false_and] at hv
        have hnx := ltSucc (P := fun j => qualW nm p at' (l.getD j zeroWl) = false) hj hv
        clear hj hv
        repeat' (first
    | (apply Awp.sreg; (case hn => (simp only [List.length_cons, List.length_nil, Nat.reduceAdd] <;> rfl)))
    | (refine st_nil ?_)
    | (apply st_a; (case hc => rfl); (case he => (simp only [go_sem, *] <;> rfl)); (case hu => (simp only [updL_nil, updL_cons] <;> rfl)); (case hp => first | trivial | omega))
    | (apply st_m; (case hc => rfl); (case hg => (simp only [go_sem, *] <;> rfl)); (case he => (intro hQz; (try simp only [wantB_t, wantB_f, Bool.and_eq_true, Bool.not_eq_true', Bool.not_true, Bool.not_false, and_true, true_and] at hQz); simp only [go_sem, *] <;> rfl)); (case hp => (intro hQz; (try simp only [wantB_t, wantB_f, Bool.and_eq_true, Bool.not_eq_true', Bool.or_eq_false_iff, decide_eq_true_eq, decide_eq_false_iff_not, beq_iff_eq, beq_eq_false_iff_ne, bne_iff_ne, bne_eq_false_iff_eq, Int.not_lt, Int.not_le, Int.ofNat_lt, Int.ofNat_le] at hQz); first | trivial)))
    | (apply st_mc; (case hop => rfl); (case hg => (simp only [go_sem, *] <;> rfl)); (case hc => (intro hQz; (try simp only [wantB_t, wantB_f, Bool.and_eq_true, Bool.not_eq_true', Bool.not_true, Bool.not_false, and_true, true_and] at hQz); simp only [go_sem, *] <;> rfl)); (case hl => (intro hQz; (try simp only [wantB_t, wantB_f, Bool.and_eq_true, Bool.not_eq_true', Bool.not_true, Bool.not_false, and_true, true_and] at hQz); simp only [go_sem, *] <;> rfl)); (case hn => (intro hQz; (try simp only [wantB_t, wantB_f, Bool.and_eq_true, Bool.not_eq_true', Bool.not_true, Bool.not_false, and_true, true_and] at hQz); simp only [go_sem, *] <;> rfl)); (case hp => intro hQz; first | exact c0 | (have hXz := c0; simp only [go_sem, *] at hXz; exact hXz)))
    | (apply Awp.reg; (case hn => (simp only [List.length_cons, List.length_nil, Nat.reduceAdd] <;> rfl)))
    | (refine Awp.skip ?_; try simp only [go_sem, *])
    | refine Awp.block ?_
    | (apply Awp.cond; (case hc => (simp only [go_sem, *] <;> rfl)); all_goals (intro hg; (try simp only [Bool.not_true, Bool.not_false, reduceCtorEq] at hg)))
    | refine Awp.seq ?_)
        all_goals (refine ⟨i + 1, ⟨by omega, hnx⟩, by omega, ?_⟩; (apply Ghost.mk [] []; (case hdead => rfl); (case hinj => rfl); (case hV => (simp only [go_sem, *]) <;> (repeat' (first | exact View.int (by first | rfl | omega | (simp; done) | (rw [wrap_i64] <;> (try simp only [Int.natCast_add]) <;> omega) | (simp [*]; done))))); (case hB => (simp only [go_sem, *]) <;> (repeat' (first | skip; done)))))
      rw [h1, Bool.true_and] at hv
      cases h2 : validB p at' (l.getD i zeroWl)
      · rw [h2] at hv c0
        have hnx := ltSucc (P := fun j => qualW nm p at' (l.getD j zeroWl) = false) hj hv
        clear hj hv
        repeat' (first
    | (apply Awp.sreg; (case hn => (simp only [List.length_cons, List.length_nil, Nat.reduceAdd] <;> rfl)))
    | (refine st_nil ?_)
    | (apply st_a; (case hc => rfl); (case he => (simp only [go_sem, *] <;> rfl)); (case hu => (simp only [updL_nil, updL_cons] <;> rfl)); (case hp => first | trivial | omega))
    | (apply st_m; (case hc => rfl); (case hg => (simp only [go_sem, *] <;> rfl)); (case he => (intro hQz; (try simp only [wantB_t, wantB_f, Bool.and_eq_true, Bool.not_eq_true', Bool.not_true, Bool.not_false, and_true, true_and] at hQz); simp only [go_sem, *] <;> rfl)); (case hp => (intro hQz; (try simp only [wantB_t, wantB_f, Bool.and_eq_true, Bool.not_eq_true', Bool.or_eq_false_iff, decide_eq_true_eq, decide_eq_false_iff_not, beq_iff_eq, beq_eq_false_iff_ne, bne_iff_ne, bne_eq_false_iff_eq, Int.not_lt, Int.not_le, Int.ofNat_lt, Int.ofNat_le] at hQz); first | trivial | omega)))
    | (apply st_mc; (case hop => rfl); (case hg => (simp only [go_sem, *] <;> rfl)); (case hc => (intro hQz; (try simp only [wantB_t, wantB_f, Bool.and_eq_true, Bool.not_eq_true', Bool.not_true, Bool.not_false, and_true, true_and] at hQz); simp only [go_sem, *] <;> rfl)); (case hl => (intro hQz; (try simp only [wantB_t, wantB_f, Bool.and_eq_true, Bool.not_eq_true', Bool.not_true, Bool.not_false, and_true, true_and] at hQz); simp only [go_sem, *] <;> rfl)); (case hn => (intro hQz; (try simp only [wantB_t, wantB_f, Bool.and_eq_true, Bool.not_eq_true', Bool.not_true, Bool.not_false, and_true, true_and] at hQz); simp only [go_sem, *] <;> rfl)); (case hp => intro hQz; first | exact c0 | (have hXz := c0; simp only [go_sem, *] at hXz; exact hXz)))
    | (apply Awp.reg; (case hn => (simp only [List.length_cons, List.length_nil, Nat.reduceAdd] <;> rfl)))
    | (refine Awp.skip ?_; try simp only [go_sem, *])
    | refine Awp.block ?_
    | (apply Awp.cond; (case hc => (simp only [go_sem, *] <;> rfl)); all_goals (intro hg; (try simp only [Bool.not_true, Bool.not_false, reduceCtorEq] at hg)))
    | refine Awp.seq ?_)
        all_goals (refine ⟨i + 1, ⟨by omega, hnx⟩, by omega, ?_⟩; (apply Ghost.mk [] []; (case hdead => rfl); (case hinj => rfl); (case hV => (simp only [go_sem, *]) <;> (repeat' (first | exact View.int (by first | rfl | omega | (simp; done) | (rw [wrap_i64] <;> (try simp only [Int.natCast_add]) <;> omega) | (simp [*]; done))))); (case hB => (simp only [go_sem, *]) <;> (repeat' (first | skip; done)))))
      · rw [h2] at hv c0
        have hf := any_in (p := qualW nm p at') hlt hv
        clear hj hv
        repeat' (first
    | (apply Awp.sreg; (case hn => (simp only [List.length_cons, List.length_nil, Nat.reduceAdd] <;> rfl)))
    | (refine st_nil ?_)
    | (apply st_a; (case hc => rfl); (case he => (simp only [go_sem, *] <;> rfl)); (case hu => (simp only [updL_nil, updL_cons] <;> rfl)); (case hp => first | trivial | omega))
    | (apply st_m; (case hc => rfl); (case hg => (simp only [go_sem, *] <;> rfl)); (case he => (intro hQz; (try simp only [wantB_t, wantB_f, Bool.and_eq_true, Bool.not_eq_true', Bool.not_true, Bool.not_false, and_true, true_and] at hQz); simp only [go_sem, *] <;> rfl)); (case hp => (intro hQz; (try simp only [wantB_t, wantB_f, Bool.and_eq_true, Bool.not_eq_true', Bool.or_eq_false_iff, decide_eq_true_eq, decide_eq_false_iff_not, beq_iff_eq, beq_eq_false_iff_ne, bne_iff_ne, bne_eq_false_iff_eq, Int.not_lt, Int.not_le, Int.ofNat_lt, Int.ofNat_le] at hQz); first | trivial | omega)))
    | (apply st_mc; (case hop => rfl); (case hg => (simp only [go_sem, *] <;> rfl)); (case hc => (intro hQz; (try simp only [wantB_t, wantB_f, Bool.and_eq_true, Bool.not_eq_true', Bool.not_true, Bool.not_false, and_true, true_and] at hQz); simp only [go_sem, *] <;> rfl)); (case hl => (intro hQz; (try simp only [wantB_t, wantB_f, Bool.and_eq_true, Bool.not_eq_true', Bool.not_true, Bool.not_false, and_true, true_and] at hQz); simp only [go_sem, *] <;> rfl)); (case hn => (intro hQz; (try simp only [wantB_t, wantB_f, Bool.and_eq_true, Bool.not_eq_true', Bool.not_true, Bool.not_false, and_true, true_and] at hQz); simp only [go_sem, *] <;> rfl)); (case hp => intro hQz; first | exact c0 | (have hXz := c0; simp only [go_sem, *] at hXz; exact hXz)))
    | (refine Awp.ret ?_; try simp only [go_sem, *])
    | (refine Awp.skip ?_; try simp only [go_sem, *])
    | refine Awp.block ?_
    | (apply Awp.cond; (case hc => (simp only [go_sem, *] <;> rfl)); all_goals (intro hg; (try simp only [Bool.not_true, Bool.not_false, reduceCtorEq] at hg)))
    | refine Awp.seq ?_)
        all_goals repeat' (first | exact Lower.bool (by first | rfl | (simp only [true_and, Bool.true_and, Bool.false_and, Bool.and_true, Bool.and_false, Bool.true_or, Bool.false_or, reduceIte, Bool.false_eq_true, *]; done) | (simp only [true_and, reduceIte, Bool.false_eq_true, *] <;> rfl) | (simp [true_and]; done) | (simp_all [true_and]; done) | omega))
    · have hlt' : ¬ (i : Int) < l.length := by omega
      have hf := any_out (p := qualW nm p at') (Nat.le_of_not_lt hlt) hj
      clear hj hsk
      repeat' (first
    | (apply Awp.sreg; (case hn => (simp only [List.length_cons, List.length_nil, Nat.reduceAdd] <;> rfl)))
    | (refine st_nil ?_)
    | (apply st_a; (case hc => rfl); (case he => (simp only [go_sem, *] <;> rfl)); (case hu => (simp only [updL_nil, updL_cons] <;> rfl)); (case hp => first | trivial))
    | (refine Awp.ret ?_; try simp only [go_sem, *])
    | (refine Awp.exit ?_; try simp only [go_sem, *])
    | (apply Awp.cond; (case hc => (simp only [go_sem, *] <;> rfl)); all_goals (intro hg; (try simp only [Bool.not_true, Bool.not_false, reduceCtorEq] at hg)))
    | refine Awp.seq ?_)
      all_goals repeat' (first | exact Lower.bool (by first | rfl | (simp only [true_and, Bool.true_and, Bool.false_and, Bool.and_true, Bool.and_false, Bool.true_or, Bool.false_or, reduceIte, Bool.false_eq_true, *]; done) | (simp only [true_and, reduceIte, Bool.false_eq_true, *] <;> rfl) | (simp [true_and]; done) | (simp_all [true_and]; done) | omega))
theorem pickN_in {l : List Wl} {p : ByteArray} {at' : Int} {i : Nat} (h : i < l.length) (hp : validB p at' (l.getD i zeroWl) = true) (hj : ∀ j, j < i → validB p at' (l.getD j zeroWl) = false) : pickN l p at' = (l.getD i zeroWl).nm ∧ pickB l p at' = true := by
  unfold pickN
  rw [find_in h hp hj]
  exact ⟨rfl, any_in h hp⟩
theorem pickN_out {l : List Wl} {p : ByteArray} {at' : Int} {i : Nat} (h : l.length ≤ i) (hj : ∀ j, j < i → validB p at' (l.getD j zeroWl) = false) : pickN l p at' = ⟨#[]⟩ ∧ pickB l p at' = false := by
  unfold pickN
  rw [find_out h hj]
  exact ⟨rfl, any_out h hj⟩
theorem pick_ok (l : List Wl) (p : ByteArray) (at' : Int) (hl : l.length < 1000000) (hsk : ∀ i, i < l.length → (l.getD i zeroWl).sk.length < 1000000) :
    Pure Try.prog 16 [.sl (wls l), .v (.string p), .v (.int .i64 at')] (.tup [.v (.string (pickN l p at')), .v (.bool (pickB l p at'))]) := by
  refine fn_pure Try.F16 (Nat.le_of_ble_eq_true rfl) ?_; unfold Try.ac16
  repeat' (first
    | (apply Awp.sreg; (case hn => (simp only [List.length_cons, List.length_nil, Nat.reduceAdd] <;> rfl)))
    | (refine st_nil ?_)
    | (apply st_a; (case hc => rfl); (case he => (simp only [go_sem, *] <;> rfl)); (case hu => (simp only [updL_nil, updL_cons] <;> rfl)); (case hp => first | trivial))
    | refine Awp.block ?_
    | refine Awp.seq ?_)
  refine Awp.loop (fun i : Nat => i ≤ l.length ∧ ∀ j, j < i → validB p at' (l.getD j zeroWl) = false) 40 (fun i => mkS [(1, .v (.string p)), (2, .v (.int .i64 at')), (10, .sl (wls l)), (11, .v (.int .i64 l.length)), (12, .v (.int .i64 i))] []) (fun i => l.length - i) 0 (by simp) ?_ ?_
  · (apply Ghost.mk [] []; (case hdead => rfl); (case hinj => rfl); (case hV => (simp only [go_sem, *]) <;> (repeat' (first | exact View.int (by first | rfl | omega | (simp; done) | (rw [wrap_i64] <;> (try simp only [Int.natCast_add]) <;> omega) | (simp [*]; done))))); (case hB => (simp only [go_sem, *]) <;> (repeat' (first | skip; done))))
  · intro i ⟨hi, hj⟩
    by_cases hlt : i < l.length
    · have hlt' : (i : Int) < l.length := by omega
      have hat := wls_at l i hlt
      have hz : ((l.getD i zeroWl).cells).length = 2 := rfl
      have c0 := valid_ok (l.getD i zeroWl) p at' (hsk i hlt)
      clear hsk
      cases h2 : validB p at' (l.getD i zeroWl)
      · rw [h2] at c0
        have hnx := ltSucc (P := fun j => validB p at' (l.getD j zeroWl) = false) hj h2
        clear hj h2
        repeat' (first
    | (apply Awp.sreg; (case hn => (simp only [List.length_cons, List.length_nil, Nat.reduceAdd] <;> rfl)))
    | (refine st_nil ?_)
    | (apply st_a; (case hc => rfl); (case he => (simp only [go_sem, *] <;> rfl)); (case hu => (simp only [updL_nil, updL_cons] <;> rfl)); (case hp => first | trivial | omega))
    | (apply st_c; (case hc => (simp only [go_sem, *] <;> rfl)); (case hl => (simp only [go_sem, *] <;> rfl)); (case hn => (simp only [go_sem, *] <;> rfl)); (case hp => first | exact c0 | (have hXz := c0; simp only [go_sem, *] at hXz; exact hXz)))
    | (apply Awp.reg; (case hn => (simp only [List.length_cons, List.length_nil, Nat.reduceAdd] <;> rfl)))
    | (refine Awp.skip ?_; try simp only [go_sem, *])
    | refine Awp.block ?_
    | (apply Awp.cond; (case hc => (simp only [go_sem, *] <;> rfl)); all_goals (intro hg; (try simp only [Bool.not_true, Bool.not_false, reduceCtorEq] at hg)))
    | refine Awp.seq ?_)
        all_goals (refine ⟨i + 1, ⟨by omega, hnx⟩, by omega, ?_⟩; (apply Ghost.mk [] []; (case hdead => rfl); (case hinj => rfl); (case hV => (simp only [go_sem, *]) <;> (repeat' (first | exact View.int (by first | rfl | omega | (simp; done) | (rw [wrap_i64] <;> (try simp only [Int.natCast_add]) <;> omega) | (simp [*]; done))))); (case hB => (simp only [go_sem, *]) <;> (repeat' (first | skip; done)))))
      · rw [h2] at c0
        obtain ⟨hf, hf'⟩ := pickN_in hlt h2 hj
        clear hj h2
        repeat' (first
    | (apply Awp.sreg; (case hn => (simp only [List.length_cons, List.length_nil, Nat.reduceAdd] <;> rfl)))
    | (refine st_nil ?_)
    | (apply st_a; (case hc => rfl); (case he => (simp only [go_sem, *] <;> rfl)); (case hu => (simp only [updL_nil, updL_cons] <;> rfl)); (case hp => first | trivial | omega))
    | (apply st_c; (case hc => (simp only [go_sem, *] <;> rfl)); (case hl => (simp only [go_sem, *] <;> rfl)); (case hn => (simp only [go_sem, *] <;> rfl)); (case hp => first | exact c0 | (have hXz := c0; simp only [go_sem, *] at hXz; exact hXz)))
    | (refine Awp.ret ?_; try simp only [go_sem, *])
    | (refine Awp.skip ?_; try simp only [go_sem, *])
    | refine Awp.block ?_
    | (apply Awp.cond; (case hc => (simp only [go_sem, *] <;> rfl)); all_goals (intro hg; (try simp only [Bool.not_true, Bool.not_false, reduceCtorEq] at hg)))
    | refine Awp.seq ?_)
        all_goals repeat' (first | exact Lower.bool (by first | rfl | (simp only [true_and, Bool.true_and, Bool.false_and, Bool.and_true, Bool.and_false, Bool.true_or, Bool.false_or, reduceIte, Bool.false_eq_true, *]; done) | (simp only [true_and, reduceIte, Bool.false_eq_true, *] <;> rfl) | (simp [true_and]; done) | (simp_all [true_and]; done) | omega) | exact Lower.str (by first | rfl | (simp only [true_and, Bool.true_and, Bool.false_and, Bool.and_true, Bool.and_false, Bool.true_or, Bool.false_or, reduceIte, Bool.false_eq_true, *]; done) | (simp only [true_and, reduceIte, Bool.false_eq_true, *] <;> rfl) | (simp [true_and]; done) | (simp_all [true_and]; done) | omega) | refine Lower.tupF ?_ | refine All2.cons ?_ ?_ | exact All2.nil)
    · have hlt' : ¬ (i : Int) < l.length := by omega
      obtain ⟨hf, hf'⟩ := pickN_out (Nat.le_of_not_lt hlt) hj
      clear hj hsk
      repeat' (first
    | (apply Awp.sreg; (case hn => (simp only [List.length_cons, List.length_nil, Nat.reduceAdd] <;> rfl)))
    | (refine st_nil ?_)
    | (apply st_a; (case hc => rfl); (case he => (simp only [go_sem, *] <;> rfl)); (case hu => (simp only [updL_nil, updL_cons] <;> rfl)); (case hp => first | trivial))
    | (refine Awp.ret ?_; try simp only [go_sem, *])
    | (refine Awp.exit ?_; try simp only [go_sem, *])
    | (apply Awp.cond; (case hc => (simp only [go_sem, *] <;> rfl)); all_goals (intro hg; (try simp only [Bool.not_true, Bool.not_false, reduceCtorEq] at hg)))
    | refine Awp.seq ?_)
      all_goals repeat' (first | exact Lower.bool (by first | rfl | (simp only [true_and, Bool.true_and, Bool.false_and, Bool.and_true, Bool.and_false, Bool.true_or, Bool.false_or, reduceIte, Bool.false_eq_true, *]; done) | (simp only [true_and, reduceIte, Bool.false_eq_true, *] <;> rfl) | (simp [true_and]; done) | (simp_all [true_and]; done) | omega) | exact Lower.str (by first | rfl | (simp only [true_and, Bool.true_and, Bool.false_and, Bool.and_true, Bool.and_false, Bool.true_or, Bool.false_or, reduceIte, Bool.false_eq_true, *]; done) | (simp only [true_and, reduceIte, Bool.false_eq_true, *] <;> rfl) | (simp [true_and]; done) | (simp_all [true_and]; done) | omega) | refine Lower.tupF ?_ | refine All2.cons ?_ ?_ | exact All2.nil)
theorem rpick_ok (l : List Wl) (p : ByteArray) (at' : Int) (hl : l.length < 1000000) (hsk : ∀ i, i < l.length → (l.getD i zeroWl).sk.length < 1000000) :
    Pure Try.prog 17 [.sl (wls l), .v (.string p), .v (.int .i64 at')] (.tup [.v (.string (pickN l p at')), .v (.bool (pickB l p at'))]) := by
  refine fn_pure Try.F17 (Nat.le_of_ble_eq_true rfl) ?_; unfold Try.ac17
  repeat' (first
    | (apply Awp.sreg; (case hn => (simp only [List.length_cons, List.length_nil, Nat.reduceAdd] <;> rfl)))
    | (refine st_nil ?_)
    | (apply st_a; (case hc => rfl); (case he => (simp only [go_sem, *] <;> rfl)); (case hu => (simp only [updL_nil, updL_cons] <;> rfl)); (case hp => first | trivial))
    | refine Awp.block ?_
    | refine Awp.seq ?_)
  refine Awp.loop (fun i : Nat => i ≤ l.length ∧ ∀ j, j < i → validB p at' (l.getD j zeroWl) = false) 40 (fun i => mkS [(0, .sl (wls l)), (1, .v (.string p)), (2, .v (.int .i64 at')), (8, .v (.int .i64 i))] []) (fun i => l.length - i) 0 (by simp) ?_ ?_
  · (apply Ghost.mk [] []; (case hdead => rfl); (case hinj => rfl); (case hV => (simp only [go_sem, *]) <;> (repeat' (first | exact View.int (by first | rfl | omega | (simp; done) | (rw [wrap_i64] <;> (try simp only [Int.natCast_add]) <;> omega) | (simp [*]; done))))); (case hB => (simp only [go_sem, *]) <;> (repeat' (first | skip; done))))
  · intro i ⟨hi, hj⟩
    by_cases hlt : i < l.length
    · have hlt' : (i : Int) < l.length := by omega
      have hat := wls_at l i hlt
      have hz : ((l.getD i zeroWl).cells).length = 2 := rfl
      have c0 := able_ok (l.getD i zeroWl) p at' (hsk i hlt)
      clear hsk
      cases h2 : validB p at' (l.getD i zeroWl)
      · rw [h2] at c0
        have hnx := ltSucc (P := fun j => validB p at' (l.getD j zeroWl) = false) hj h2
        clear hj h2
        repeat' (first
    | (apply Awp.sreg; (case hn => (simp only [List.length_cons, List.length_nil, Nat.reduceAdd] <;> rfl)))
    | (refine st_nil ?_)
    | (apply st_a; (case hc => rfl); (case he => (simp only [go_sem, *] <;> rfl)); (case hu => (simp only [updL_nil, updL_cons] <;> rfl)); (case hp => first | trivial | omega))
    | (apply st_c; (case hc => (simp only [go_sem, *] <;> rfl)); (case hl => (simp only [go_sem, *] <;> rfl)); (case hn => (simp only [go_sem, *] <;> rfl)); (case hp => first | exact c0 | (have hXz := c0; simp only [go_sem, *] at hXz; exact hXz)))
    | (apply Awp.reg; (case hn => (simp only [List.length_cons, List.length_nil, Nat.reduceAdd] <;> rfl)))
    | (refine Awp.skip ?_; try simp only [go_sem, *])
    | refine Awp.block ?_
    | (apply Awp.cond; (case hc => (simp only [go_sem, *] <;> rfl)); all_goals (intro hg; (try simp only [Bool.not_true, Bool.not_false, reduceCtorEq] at hg)))
    | refine Awp.seq ?_)
        all_goals (refine ⟨i + 1, ⟨by omega, hnx⟩, by omega, ?_⟩; (apply Ghost.mk [] []; (case hdead => rfl); (case hinj => rfl); (case hV => (simp only [go_sem, *]) <;> (repeat' (first | exact View.int (by first | rfl | omega | (simp; done) | (rw [wrap_i64] <;> (try simp only [Int.natCast_add]) <;> omega) | (simp [*]; done))))); (case hB => (simp only [go_sem, *]) <;> (repeat' (first | skip; done)))))
      · rw [h2] at c0
        obtain ⟨hf, hf'⟩ := pickN_in hlt h2 hj
        clear hj h2
        repeat' (first
    | (apply Awp.sreg; (case hn => (simp only [List.length_cons, List.length_nil, Nat.reduceAdd] <;> rfl)))
    | (refine st_nil ?_)
    | (apply st_a; (case hc => rfl); (case he => (simp only [go_sem, *] <;> rfl)); (case hu => (simp only [updL_nil, updL_cons] <;> rfl)); (case hp => first | trivial | omega))
    | (apply st_c; (case hc => (simp only [go_sem, *] <;> rfl)); (case hl => (simp only [go_sem, *] <;> rfl)); (case hn => (simp only [go_sem, *] <;> rfl)); (case hp => first | exact c0 | (have hXz := c0; simp only [go_sem, *] at hXz; exact hXz)))
    | (refine Awp.ret ?_; try simp only [go_sem, *])
    | (refine Awp.skip ?_; try simp only [go_sem, *])
    | refine Awp.block ?_
    | (apply Awp.cond; (case hc => (simp only [go_sem, *] <;> rfl)); all_goals (intro hg; (try simp only [Bool.not_true, Bool.not_false, reduceCtorEq] at hg)))
    | refine Awp.seq ?_)
        all_goals repeat' (first | exact Lower.bool (by first | rfl | (simp only [true_and, Bool.true_and, Bool.false_and, Bool.and_true, Bool.and_false, Bool.true_or, Bool.false_or, reduceIte, Bool.false_eq_true, *]; done) | (simp only [true_and, reduceIte, Bool.false_eq_true, *] <;> rfl) | (simp [true_and]; done) | (simp_all [true_and]; done) | omega) | exact Lower.str (by first | rfl | (simp only [true_and, Bool.true_and, Bool.false_and, Bool.and_true, Bool.and_false, Bool.true_or, Bool.false_or, reduceIte, Bool.false_eq_true, *]; done) | (simp only [true_and, reduceIte, Bool.false_eq_true, *] <;> rfl) | (simp [true_and]; done) | (simp_all [true_and]; done) | omega) | refine Lower.tupF ?_ | refine All2.cons ?_ ?_ | exact All2.nil)
    · have hlt' : ¬ (i : Int) < l.length := by omega
      obtain ⟨hf, hf'⟩ := pickN_out (Nat.le_of_not_lt hlt) hj
      clear hj hsk
      repeat' (first
    | (apply Awp.sreg; (case hn => (simp only [List.length_cons, List.length_nil, Nat.reduceAdd] <;> rfl)))
    | (refine st_nil ?_)
    | (apply st_a; (case hc => rfl); (case he => (simp only [go_sem, *] <;> rfl)); (case hu => (simp only [updL_nil, updL_cons] <;> rfl)); (case hp => first | trivial))
    | (refine Awp.ret ?_; try simp only [go_sem, *])
    | (refine Awp.exit ?_; try simp only [go_sem, *])
    | (apply Awp.cond; (case hc => (simp only [go_sem, *] <;> rfl)); all_goals (intro hg; (try simp only [Bool.not_true, Bool.not_false, reduceCtorEq] at hg)))
    | refine Awp.seq ?_)
      all_goals repeat' (first | exact Lower.bool (by first | rfl | (simp only [true_and, Bool.true_and, Bool.false_and, Bool.and_true, Bool.and_false, Bool.true_or, Bool.false_or, reduceIte, Bool.false_eq_true, *]; done) | (simp only [true_and, reduceIte, Bool.false_eq_true, *] <;> rfl) | (simp [true_and]; done) | (simp_all [true_and]; done) | omega) | exact Lower.str (by first | rfl | (simp only [true_and, Bool.true_and, Bool.false_and, Bool.and_true, Bool.and_false, Bool.true_or, Bool.false_or, reduceIte, Bool.false_eq_true, *]; done) | (simp only [true_and, reduceIte, Bool.false_eq_true, *] <;> rfl) | (simp [true_and]; done) | (simp_all [true_and]; done) | omega) | refine Lower.tupF ?_ | refine All2.cons ?_ ?_ | exact All2.nil)
end Go.Proofs
end
