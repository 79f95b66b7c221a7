import Derived.Test.YtpmcoiomcjgehaaCode
import Derived.Test.YtpmcoiomcjgehaaLayB
section
set_option linter.unusedVariables false
set_option linter.unusedSimpArgs false
namespace Go.Proofs
open Go Go.Ab
set_option maxHeartbeats 1000000
set_option maxRecDepth 100000
set_option linter.unusedSimpArgs false
set_option linter.unusedVariables false
attribute [local irreducible] Awp aops aopsL Go.Ab.Pure PureOwn
def ints (l : List Int) : List (List AV) := l.map fun n => [.v (.int .i64 n)]
theorem ints_len (l : List Int) : (ints l).length = l.length := by simp [ints]
attribute [go_sem] ints_len
@[go_sem] theorem ints_at (l : List Int) (i : Nat) (h : i < l.length) : (ints l).getD i [] = [.v (.int .i64 (l.getD i 0))] := by
  simp [ints, List.getD_eq_getElem?_getD, h]
@[go_sem] theorem neg1 : Int.negSucc 0 = -1 := rfl
theorem ltSucc {P : Nat → Prop} {i : Nat} (h : ∀ j, j < i → P j) (hi : P i) : ∀ j, j < i + 1 → P j := fun j hj => by
  rcases Nat.lt_succ_iff_lt_or_eq.1 hj with h' | rfl
  · exact h j h'
  · exact hi
end Go.Proofs
end
section
set_option linter.unusedVariables false
set_option linter.unusedSimpArgs false
namespace Go.Proofs
open Go Go.Ab
set_option maxHeartbeats 4000000
set_option maxRecDepth 100000
set_option linter.unusedSimpArgs false
set_option linter.unusedVariables false
attribute [local irreducible] Awp aops aopsL Go.Ab.Pure PureOwn
def Sp.cells (s : Sp) : List AV := [.v (.int .i64 s.a), .v (.int .i64 s.b)]
def Sp.av (s : Sp) : AV := .agg s.cells
attribute [go_sem] Sp.av Sp.cells
def sps (l : List Sp) : List (List AV) := l.map Sp.cells
@[go_sem] theorem sps_len (l : List Sp) : (sps l).length = l.length := by simp [sps]
theorem sps_at (l : List Sp) (i : Nat) (h : i < l.length) : (sps l).getD i [] = (l.getD i zeroSp).cells := by
  simp [sps, List.getD_eq_getElem?_getD, h]
theorem sps_one (l : List Sp) : ∀ y ∈ sps l, y.length = 2 := by
  intro y hy; obtain ⟨s, _, rfl⟩ := List.mem_map.1 hy; rfl
theorem sps_append (l m : List Sp) : sps (l ++ m) = sps l ++ sps m := by simp [sps]
theorem sps_snoc (l : List Sp) (x : Sp) : sps l ++ [[.v (.int .i64 x.a), .v (.int .i64 x.b)]] = sps (l ++ [x]) := by simp [sps, Sp.cells]
theorem sps_one1 (x : Sp) : [[AV.v (.int .i64 x.a), .v (.int .i64 x.b)]] = sps [x] := rfl
theorem sps_nil : sps [] = [] := rfl
theorem sps_set (l : List Sp) (i : Nat) (x : Sp) : (sps l).set i [.v (.int .i64 x.a), .v (.int .i64 x.b)] = sps (l.set i x) := by
  simp [sps, List.map_set, Sp.cells]
def idxF {α : Type} (p : α → Bool) (l : List α) : Int := if l.findIdx p < l.length then (l.findIdx p : Int) else -1
theorem idxF_in {α : Type} {p : α → Bool} {l : List α} {d : α} {i : Nat} (h : i < l.length) (hp : p (l.getD i d) = true) (hj : ∀ j, j < i → p (l.getD j d) = false) : idxF p l = i := by
  have hg : ∀ j (hh : j < l.length), l.getD j d = l[j] := fun j hh => by simp [List.getD_eq_getElem?_getD, hh]
  have e : l.findIdx p = i := by
    rw [List.findIdx_eq h]
    refine ⟨by rw [← hg i h]; exact hp, fun j hji => ?_⟩
    have := hj j hji
    rw [hg j (by omega)] at this
    simpa using this
  unfold idxF
  rw [e, if_pos h]
theorem idxF_out {α : Type} {p : α → Bool} {l : List α} {d : α} {i : Nat} (h : l.length ≤ i) (hj : ∀ j, j < i → p (l.getD j d) = false) : idxF p l = -1 := by
  unfold idxF
  rw [if_neg]
  intro hlt
  have h1 := List.findIdx_getElem (w := hlt)
  have h2 := hj (l.findIdx p) (by omega)
  rw [List.getD_eq_getElem?_getD, List.getElem?_eq_getElem hlt] at h2
  simp only [Option.getD_some] at h2
  rw [h2] at h1
  cases h1
theorem idxF_any {α : Type} (p : α → Bool) (l : List α) : decide (0 ≤ idxF p l) = l.any p := by
  unfold idxF
  by_cases h : l.findIdx p < l.length
  · rw [if_pos h]
    have h2 := List.findIdx_getElem (w := h)
    have h3 : l.any p = true := List.any_eq_true.2 ⟨_, List.getElem_mem h, h2⟩
    rw [h3, decide_eq_true_eq]
    omega
  · rw [if_neg h]
    have h3 : l.any p = false := by
      rw [Bool.eq_false_iff]
      intro h4
      obtain ⟨x, hx, hpx⟩ := List.any_eq_true.1 h4
      exact h (List.findIdx_lt_length_of_exists ⟨x, hx, hpx⟩)
    rw [h3]; rfl
theorem empty_ok (x : Sp) : Pure Try.prog 34 [x.av] (.v (.bool (decide (x.b ≤ x.a)))) := by
  refine fn_pure Try.F34 (Nat.le_of_ble_eq_true rfl) ?_; unfold Try.ac34
  repeat' (first
    | (apply Awp.sreg; (case hn => (simp only [List.length_cons, List.length_nil, Nat.reduceAdd] <;> rfl)))
    | (refine st_nil ?_)
    | (apply st_a; (case hc => rfl); (case he => (simp only [go_sem, *] <;> rfl)); (case hu => (simp only [updL_nil, updL_cons] <;> rfl)); (case hp => first | trivial | assumption | omega | (simp; done) | (simp; omega) | (simp [*]; done) | ((repeat' (refine And.intro ?_ ?_)) <;> first | trivial | assumption | omega | (simp; done) | (simp; omega) | (simp [*]; done))))
    | (refine Awp.ret ?_; try simp only [go_sem, *]))
  all_goals repeat' (first | exact Lower.bool (by first | rfl | (simp only [true_and, Bool.true_and, Bool.false_and, Bool.and_true, Bool.and_false, Bool.true_or, Bool.false_or, reduceIte, Bool.false_eq_true, *]; done) | (simp only [true_and, reduceIte, Bool.false_eq_true, *] <;> rfl) | (simp [true_and]; done) | (simp_all [true_and]; done) | omega))
def inB (n : Int) (s : Sp) : Bool := decide (s.a ≤ n) && decide (n < s.b)
theorem inC_ok (n : Int) (x : Sp) : Pure Try.prog 40 [x.av, .rp [.v (.int .i64 n)]] (.v (.bool (inB n x))) := by
  unfold inB
  refine fn_pure Try.F40 (Nat.le_of_ble_eq_true rfl) ?_; unfold Try.ac40
  repeat' (first
    | (apply Awp.sreg; (case hn => (simp only [List.length_cons, List.length_nil, Nat.reduceAdd] <;> rfl)))
    | (refine st_nil ?_)
    | (apply st_a; (case hc => rfl); (case he => (simp only [go_sem, *] <;> rfl)); (case hu => (simp only [updL_nil, updL_cons] <;> rfl)); (case hp => first | trivial | assumption | omega | (simp; done) | (simp; omega) | (simp [*]; done) | ((repeat' (refine And.intro ?_ ?_)) <;> first | trivial | assumption | omega | (simp; done) | (simp; omega) | (simp [*]; done))))
    | (apply st_m; (case hc => rfl); (case hg => (simp only [go_sem, *] <;> rfl)); (case he => (intro hQz; (try simp only [wantB_t, wantB_f, Bool.and_eq_true, Bool.not_eq_true', Bool.not_true, Bool.not_false, and_true, true_and] at hQz); simp only [go_sem, *] <;> rfl)); (case hp => (intro hQz; (try simp only [wantB_t, wantB_f, Bool.and_eq_true, Bool.not_eq_true', Bool.or_eq_false_iff, decide_eq_true_eq, decide_eq_false_iff_not, beq_iff_eq, beq_eq_false_iff_ne, bne_iff_ne, bne_eq_false_iff_eq, Int.not_lt, Int.not_le, Int.ofNat_lt, Int.ofNat_le] at hQz); first | trivial | assumption | omega | (simp; done) | (simp; omega) | (simp [*]; done) | ((repeat' (refine And.intro ?_ ?_)) <;> first | trivial | assumption | omega | (simp; done) | (simp; omega) | (simp [*]; done)))))
    | (refine Awp.ret ?_; try simp only [go_sem, *]))
  all_goals repeat' (first | exact Lower.bool (by first | rfl | (simp only [true_and, Bool.true_and, Bool.false_and, Bool.and_true, Bool.and_false, Bool.true_or, Bool.false_or, reduceIte, Bool.false_eq_true, *]; done) | (simp only [true_and, reduceIte, Bool.false_eq_true, *] <;> rfl) | (simp [true_and]; done) | (simp_all [true_and]; done) | omega))
theorem index_ok (l : List Sp) (g : Nat) (cs : List AV) (p : Sp → Bool) (hl : l.length < 1000000) (hp : ∀ x : Sp, Pure Try.prog g [x.av, .rp cs] (.v (.bool (p x)))) :
    Pure Try.prog 45 [.sl (sps l), .fn g [.rp cs]] (.v (.int .i64 (idxF p l))) := by
  refine fn_pure Try.F45 (Nat.le_of_ble_eq_true rfl) ?_; unfold Try.ac45
  repeat' (first
    | (apply Awp.sreg; (case hn => (simp only [List.length_cons, List.length_nil, Nat.reduceAdd] <;> rfl)))
    | (refine st_nil ?_)
    | (apply st_a; (case hc => rfl); (case he => (simp only [go_sem, *] <;> rfl)); (case hu => (simp only [updL_nil, updL_cons] <;> rfl)); (case hp => first | trivial | assumption | omega | (simp; done) | (simp; omega) | (simp [*]; done) | ((repeat' (refine And.intro ?_ ?_)) <;> first | trivial | assumption | omega | (simp; done) | (simp; omega) | (simp [*]; done))))
    | refine Awp.block ?_
    | refine Awp.seq ?_)
  refine Awp.loop (fun i : Nat => i ≤ l.length ∧ ∀ j, j < i → p (l.getD j zeroSp) = false) 40 (fun i => mkS [(0, .sl (sps l)), (1, .fn g [.rp cs]), (7, .v (.int .i64 l.length)), (8, .v (.int .i64 i))] []) (fun i => l.length - i) 0 (by simp) ?_ ?_
  · (apply Ghost.mk [] []; (case hdead => rfl); (case hinj => rfl); (case hV => (simp only [go_sem, *]) <;> (repeat' (first | refine And.intro ?_ ?_ | exact View.int (by first | rfl | omega | (simp; done) | (rw [wrap_i64] <;> (try simp only [Int.natCast_add]) <;> omega) | (simp [*]; done)) | (refine View.fnF ?_; (simp [AV.flat]; done))))); (case hB => (simp only [go_sem, *]) <;> (repeat' (first | skip; done))))
  · intro i ⟨hi, hj⟩
    by_cases hlt : i < l.length
    · have hlt' : (i : Int) < l.length := by omega
      have hat := sps_at l i hlt
      have hz : ((l.getD i zeroSp).cells).length = 2 := rfl
      have hpi := hp (l.getD i zeroSp)
      repeat' (first
    | (apply Awp.sreg; (case hn => (simp only [List.length_cons, List.length_nil, Nat.reduceAdd] <;> rfl)))
    | (refine st_nil ?_)
    | (apply st_a; (case hc => rfl); (case he => (simp only [go_sem, *] <;> rfl)); (case hu => (simp only [updL_nil, updL_cons] <;> rfl)); (case hp => first | trivial | assumption | omega | (simp; done) | (simp; omega) | (simp [*]; done) | ((repeat' (refine And.intro ?_ ?_)) <;> first | trivial | assumption | omega | (simp; done) | (simp; omega) | (simp [*]; done))))
    | (apply st_c; (case hc => (simp only [go_sem, *] <;> rfl)); (case hl => (simp only [go_sem, *] <;> rfl)); (case hn => (simp only [go_sem, *] <;> rfl)); (case hp => first | exact hpi | (have hXz := hpi; simp only [go_sem, *] at hXz; exact hXz)))
    | (apply Awp.reg; (case hn => (simp only [List.length_cons, List.length_nil, Nat.reduceAdd] <;> rfl)))
    | (refine Awp.ret ?_; try simp only [go_sem, *])
    | (refine Awp.skip ?_; try simp only [go_sem, *])
    | refine Awp.block ?_
    | (apply Awp.cond; (case hc => (simp only [go_sem, *] <;> rfl)); all_goals (intro hg; (try simp only [Bool.not_true, Bool.not_false, reduceCtorEq] at hg)))
    | refine Awp.seq ?_)
      · exact Lower.int (idxF_in hlt hg hj).symm
      · refine ⟨i + 1, ⟨by omega, ltSucc hj hg⟩, by omega, ?_⟩
        (apply Ghost.mk [] []; (case hdead => rfl); (case hinj => rfl); (case hV => (simp only [go_sem, *]) <;> (repeat' (first | refine And.intro ?_ ?_ | exact View.int (by first | rfl | omega | (simp; done) | (rw [wrap_i64] <;> (try simp only [Int.natCast_add]) <;> omega) | (simp [*]; done)) | (refine View.fnF ?_; (simp [AV.flat]; done))))); (case hB => (simp only [go_sem, *]) <;> (repeat' (first | skip; done))))
    · have hlt' : ¬ (i : Int) < l.length := by omega
      repeat' (first
    | (apply Awp.sreg; (case hn => (simp only [List.length_cons, List.length_nil, Nat.reduceAdd] <;> rfl)))
    | (refine st_nil ?_)
    | (apply st_a; (case hc => rfl); (case he => (simp only [go_sem, *] <;> rfl)); (case hu => (simp only [updL_nil, updL_cons] <;> rfl)); (case hp => first | trivial | assumption | omega | (simp; done) | (simp; omega) | (simp [*]; done) | ((repeat' (refine And.intro ?_ ?_)) <;> first | trivial | assumption | omega | (simp; done) | (simp; omega) | (simp [*]; done))))
    | (refine Awp.ret ?_; try simp only [go_sem, *])
    | (refine Awp.exit ?_; try simp only [go_sem, *])
    | (apply Awp.cond; (case hc => (simp only [go_sem, *] <;> rfl)); all_goals (intro hg; (try simp only [Bool.not_true, Bool.not_false, reduceCtorEq] at hg); (try have hg' := hg); (try simp only [decide_eq_true_eq, decide_eq_false_iff_not, Bool.and_eq_true, Bool.or_eq_false_iff, bne_iff_ne, bne_eq_false_iff_eq, beq_iff_eq, beq_eq_false_iff_ne, Int.not_lt, Int.not_le, Int.ofNat_lt, Int.ofNat_le, Int.natCast_inj] at hg')))
    | refine Awp.seq ?_)
      exact Lower.int (idxF_out (Nat.le_of_not_lt hlt) hj).symm
theorem indexN_ok (l : List Sp) (g : Nat) (p : Sp → Bool) (hl : l.length < 1000000) (hp : ∀ x : Sp, Pure Try.prog g [x.av] (.v (.bool (p x)))) :
    Pure Try.prog 45 [.sl (sps l), .fn g []] (.v (.int .i64 (idxF p l))) := by
  refine fn_pure Try.F45 (Nat.le_of_ble_eq_true rfl) ?_; unfold Try.ac45
  repeat' (first
    | (apply Awp.sreg; (case hn => (simp only [List.length_cons, List.length_nil, Nat.reduceAdd] <;> rfl)))
    | (refine st_nil ?_)
    | (apply st_a; (case hc => rfl); (case he => (simp only [go_sem, *] <;> rfl)); (case hu => (simp only [updL_nil, updL_cons] <;> rfl)); (case hp => first | trivial | assumption | omega | (simp; done) | (simp; omega) | (simp [*]; done) | ((repeat' (refine And.intro ?_ ?_)) <;> first | trivial | assumption | omega | (simp; done) | (simp; omega) | (simp [*]; done))))
    | refine Awp.block ?_
    | refine Awp.seq ?_)
  refine Awp.loop (fun i : Nat => i ≤ l.length ∧ ∀ j, j < i → p (l.getD j zeroSp) = false) 40 (fun i => mkS [(0, .sl (sps l)), (1, .fn g []), (7, .v (.int .i64 l.length)), (8, .v (.int .i64 i))] []) (fun i => l.length - i) 0 (by simp) ?_ ?_
  · (apply Ghost.mk [] []; (case hdead => rfl); (case hinj => rfl); (case hV => (simp only [go_sem, *]) <;> (repeat' (first | refine And.intro ?_ ?_ | exact View.int (by first | rfl | omega | (simp; done) | (rw [wrap_i64] <;> (try simp only [Int.natCast_add]) <;> omega) | (simp [*]; done)) | (refine View.fnF ?_; (simp [AV.flat]; done))))); (case hB => (simp only [go_sem, *]) <;> (repeat' (first | skip; done))))
  · intro i ⟨hi, hj⟩
    by_cases hlt : i < l.length
    · have hlt' : (i : Int) < l.length := by omega
      have hat := sps_at l i hlt
      have hz : ((l.getD i zeroSp).cells).length = 2 := rfl
      have hpi := hp (l.getD i zeroSp)
      repeat' (first
    | (apply Awp.sreg; (case hn => (simp only [List.length_cons, List.length_nil, Nat.reduceAdd] <;> rfl)))
    | (refine st_nil ?_)
    | (apply st_a; (case hc => rfl); (case he => (simp only [go_sem, *] <;> rfl)); (case hu => (simp only [updL_nil, updL_cons] <;> rfl)); (case hp => first | trivial | assumption | omega | (simp; done) | (simp; omega) | (simp [*]; done) | ((repeat' (refine And.intro ?_ ?_)) <;> first | trivial | assumption | omega | (simp; done) | (simp; omega) | (simp [*]; done))))
    | (apply st_c; (case hc => (simp only [go_sem, *] <;> rfl)); (case hl => (simp only [go_sem, *] <;> rfl)); (case hn => (simp only [go_sem, *] <;> rfl)); (case hp => first | exact hpi | (have hXz := hpi; simp only [go_sem, *] at hXz; exact hXz)))
    | (apply Awp.reg; (case hn => (simp only [List.length_cons, List.length_nil, Nat.reduceAdd] <;> rfl)))
    | (refine Awp.ret ?_; try simp only [go_sem, *])
    | (refine Awp.skip ?_; try simp only [go_sem, *])
    | refine Awp.block ?_
    | (apply Awp.cond; (case hc => (simp only [go_sem, *] <;> rfl)); all_goals (intro hg; (try simp only [Bool.not_true, Bool.not_false, reduceCtorEq] at hg)))
    | refine Awp.seq ?_)
      · exact Lower.int (idxF_in hlt hg hj).symm
      · refine ⟨i + 1, ⟨by omega, ltSucc hj hg⟩, by omega, ?_⟩
        (apply Ghost.mk [] []; (case hdead => rfl); (case hinj => rfl); (case hV => (simp only [go_sem, *]) <;> (repeat' (first | refine And.intro ?_ ?_ | exact View.int (by first | rfl | omega | (simp; done) | (rw [wrap_i64] <;> (try simp only [Int.natCast_add]) <;> omega) | (simp [*]; done)) | (refine View.fnF ?_; (simp [AV.flat]; done))))); (case hB => (simp only [go_sem, *]) <;> (repeat' (first | skip; done))))
    · have hlt' : ¬ (i : Int) < l.length := by omega
      repeat' (first
    | (apply Awp.sreg; (case hn => (simp only [List.length_cons, List.length_nil, Nat.reduceAdd] <;> rfl)))
    | (refine st_nil ?_)
    | (apply st_a; (case hc => rfl); (case he => (simp only [go_sem, *] <;> rfl)); (case hu => (simp only [updL_nil, updL_cons] <;> rfl)); (case hp => first | trivial | assumption | omega | (simp; done) | (simp; omega) | (simp [*]; done) | ((repeat' (refine And.intro ?_ ?_)) <;> first | trivial | assumption | omega | (simp; done) | (simp; omega) | (simp [*]; done))))
    | (refine Awp.ret ?_; try simp only [go_sem, *])
    | (refine Awp.exit ?_; try simp only [go_sem, *])
    | (apply Awp.cond; (case hc => (simp only [go_sem, *] <;> rfl)); all_goals (intro hg; (try simp only [Bool.not_true, Bool.not_false, reduceCtorEq] at hg); (try have hg' := hg); (try simp only [decide_eq_true_eq, decide_eq_false_iff_not, Bool.and_eq_true, Bool.or_eq_false_iff, bne_iff_ne, bne_eq_false_iff_eq, beq_iff_eq, beq_eq_false_iff_ne, Int.not_lt, Int.not_le, Int.ofNat_lt, Int.ofNat_le, Int.natCast_inj] at hg')))
    | refine Awp.seq ?_)
      exact Lower.int (idxF_out (Nat.le_of_not_lt hlt) hj).symm
theorem containsF_ok (l : List Sp) (g : Nat) (cs : List AV) (p : Sp → Bool) (hl : l.length < 1000000) (hp : ∀ x : Sp, Pure Try.prog g [x.av, .rp cs] (.v (.bool (p x)))) :
    Pure Try.prog 39 [.sl (sps l), .fn g [.rp cs]] (.v (.bool (l.any p))) := by
  have h := index_ok l g cs p hl hp
  rw [← idxF_any]
  refine fn_pure Try.F39 (Nat.le_of_ble_eq_true rfl) ?_; unfold Try.ac39
  repeat' (first
    | (apply Awp.sreg; (case hn => (simp only [List.length_cons, List.length_nil, Nat.reduceAdd] <;> rfl)))
    | (refine st_nil ?_)
    | (apply st_a; (case hc => rfl); (case he => (simp only [go_sem, *] <;> rfl)); (case hu => (simp only [updL_nil, updL_cons] <;> rfl)); (case hp => first | trivial | assumption | omega | (simp; done) | (simp; omega) | (simp [*]; done) | ((repeat' (refine And.intro ?_ ?_)) <;> first | trivial | assumption | omega | (simp; done) | (simp; omega) | (simp [*]; done))))
    | (apply st_c; (case hc => (simp only [go_sem, *] <;> rfl)); (case hl => (simp only [go_sem, *] <;> rfl)); (case hn => (simp only [go_sem, *] <;> rfl)); (case hp => first | exact h | (have hXz := h; simp only [go_sem, *] at hXz; exact hXz)))
    | (refine Awp.ret ?_; try simp only [go_sem, *]))
  all_goals repeat' (first | exact Lower.bool (by first | rfl | (simp only [true_and, Bool.true_and, Bool.false_and, Bool.and_true, Bool.and_false, Bool.true_or, Bool.false_or, reduceIte, Bool.false_eq_true, *]; done) | (simp only [true_and, reduceIte, Bool.false_eq_true, *] <;> rfl) | (simp [true_and]; done) | (simp_all [true_and]; done) | omega))
theorem has_ok (l : List Sp) (n : Int) (hl : l.length < 1000000) : Pure Try.prog 18 [.sl (sps l), .v (.int .i64 n)] (.v (.bool (hasB l n))) := by
  have h := containsF_ok l 40 [.v (.int .i64 n)] (inB n) hl (inC_ok n)
  have e : l.any (inB n) = hasB l n := rfl
  rw [e] at h
  refine fn_pure Try.F18 (Nat.le_of_ble_eq_true rfl) ?_; unfold Try.ac18
  repeat' (first
    | (apply Awp.sreg; (case hn => (simp only [List.length_cons, List.length_nil, Nat.reduceAdd] <;> rfl)))
    | (refine st_nil ?_)
    | (apply st_a; (case hc => rfl); (case he => (simp only [go_sem, *] <;> rfl)); (case hu => (simp only [updL_nil, updL_cons] <;> rfl)); (case hp => first | trivial | assumption | omega | (simp; done) | (simp; omega) | (simp [*]; done) | ((repeat' (refine And.intro ?_ ?_)) <;> first | trivial | assumption | omega | (simp; done) | (simp; omega) | (simp [*]; done))))
    | (apply st_cd; (case hc => (simp only [go_sem, *] <;> rfl)); (case hl => (simp only [go_sem, *] <;> rfl)); (case hn => (simp only [go_sem, *] <;> rfl)); (case hp => first | exact h | (have hXz := h; simp only [go_sem, *] at hXz; exact hXz)); (case hd => first | exact .v _ | exact .any | exact .nils | (repeat' (first | exact Dry.v _ | exact Dry.any | exact Dry.nils | exact Dry.slE | refine Dry.agg ?_ | refine Dry.tup ?_ | (refine List.forall_mem_cons.2 (And.intro ?_ ?_)) | (intro cQ hQ; cases hQ; done)))); (case hm => first | decide | (simp; done)))
    | (refine Awp.ret ?_; try simp only [go_sem, *]))
  all_goals repeat' (first | exact Lower.bool (by first | rfl | (simp only [true_and, Bool.true_and, Bool.false_and, Bool.and_true, Bool.and_false, Bool.true_or, Bool.false_or, reduceIte, Bool.false_eq_true, *]; done) | (simp only [true_and, reduceIte, Bool.false_eq_true, *] <;> rfl) | (simp [true_and]; done) | (simp_all [true_and]; done) | omega))
theorem rhas_ok (l : List Sp) (n : Int) (hl : l.length < 1000000) : Pure Try.prog 19 [.sl (sps l), .v (.int .i64 n)] (.v (.bool (hasB l n))) := by
  have any_in : ∀ {i : Nat}, i < l.length → inB n (l.getD i zeroSp) = true → hasB l n = true := by
    intro i hi hp
    refine List.any_eq_true.2 ⟨l.getD i zeroSp, ?_, hp⟩
    rw [List.getD_eq_getElem?_getD, List.getElem?_eq_getElem hi]
    exact List.getElem_mem hi
  have any_end : (∀ j, j < l.length → inB n (l.getD j zeroSp) = false) → hasB l n = false := by
    intro hj
    rw [Bool.eq_false_iff]
    intro h
    obtain ⟨x, hx, hpx⟩ := List.any_eq_true.1 h
    obtain ⟨i, hi, rfl⟩ := List.getElem_of_mem hx
    have := hj i hi
    rw [List.getD_eq_getElem?_getD, List.getElem?_eq_getElem hi] at this
    simp only [Option.getD_some] at this
    unfold inB at this
    rw [this] at hpx; cases hpx
  refine fn_pure Try.F19 (Nat.le_of_ble_eq_true rfl) ?_; unfold Try.ac19
  repeat' (first
    | (apply Awp.sreg; (case hn => (simp only [List.length_cons, List.length_nil, Nat.reduceAdd] <;> rfl)))
    | (refine st_nil ?_)
    | (apply st_a; (case hc => rfl); (case he => (simp only [go_sem, *] <;> rfl)); (case hu => (simp only [updL_nil, updL_cons] <;> rfl)); (case hp => first | trivial | assumption | omega | (simp; done) | (simp; omega) | (simp [*]; done) | ((repeat' (refine And.intro ?_ ?_)) <;> first | trivial | assumption | omega | (simp; done) | (simp; omega) | (simp [*]; done))))
    | refine Awp.block ?_
    | refine Awp.seq ?_)
  refine Awp.loop (fun i : Nat => i ≤ l.length ∧ ∀ j, j < i → inB n (l.getD j zeroSp) = false) 40 (fun i => mkS [(0, .sl (sps l)), (1, .v (.int .i64 n)), (5, .v (.int .i64 i))] []) (fun i => l.length - i) 0 (by simp) ?_ ?_
  · (apply Ghost.mk [] []; (case hdead => rfl); (case hinj => rfl); (case hV => (simp only [go_sem, *]) <;> (repeat' (first | exact View.int (by first | rfl | omega | (simp; done) | (rw [wrap_i64] <;> (try simp only [Int.natCast_add]) <;> omega) | (simp [*]; done))))); (case hB => (simp only [go_sem, *]) <;> (repeat' (first | skip; done))))
  · intro i ⟨hi, hj⟩
    by_cases hlt : i < l.length
    · have hlt' : (i : Int) < l.length := by omega
      have hat := sps_at l i hlt
      have hz : ((l.getD i zeroSp).cells).length = 2 := rfl
      cases hB : inB n (l.getD i zeroSp)
      · have hnx := ltSucc hj hB
        have hB' := hB
        unfold inB at hB'
        clear hj hB any_in any_end
        generalize l.getD i zeroSp = x at *
        repeat' (first
    | (apply Awp.sreg; (case hn => (simp only [List.length_cons, List.length_nil, Nat.reduceAdd] <;> rfl)))
    | (refine st_nil ?_)
    | (apply st_a; (case hc => rfl); (case he => (simp only [go_sem, *] <;> rfl)); (case hu => (simp only [updL_nil, updL_cons] <;> rfl)); (case hp => first | trivial | assumption | omega | (simp; done) | (simp; omega) | (simp [*]; done) | ((repeat' (refine And.intro ?_ ?_)) <;> first | trivial | assumption | omega | (simp; done) | (simp; omega) | (simp [*]; done))))
    | (apply st_m; (case hc => rfl); (case hg => (simp only [go_sem, *] <;> rfl)); (case he => (intro hQz; (try simp only [wantB_t, wantB_f, Bool.and_eq_true, Bool.not_eq_true', Bool.not_true, Bool.not_false, and_true, true_and] at hQz); simp only [go_sem, *] <;> rfl)); (case hp => (intro hQz; (try simp only [wantB_t, wantB_f, Bool.and_eq_true, Bool.not_eq_true', Bool.or_eq_false_iff, decide_eq_true_eq, decide_eq_false_iff_not, beq_iff_eq, beq_eq_false_iff_ne, bne_iff_ne, bne_eq_false_iff_eq, Int.not_lt, Int.not_le, Int.ofNat_lt, Int.ofNat_le] at hQz); first | trivial | assumption | omega | (simp; done) | (simp; omega) | (simp [*]; done) | ((repeat' (refine And.intro ?_ ?_)) <;> first | trivial | assumption | omega | (simp; done) | (simp; omega) | (simp [*]; done)))))
    | (apply Awp.reg; (case hn => (simp only [List.length_cons, List.length_nil, Nat.reduceAdd] <;> rfl)))
    | (refine Awp.skip ?_; try simp only [go_sem, *])
    | refine Awp.block ?_
    | (apply Awp.cond; (case hc => (simp only [go_sem, *] <;> rfl)); all_goals (intro hg; (try simp only [Bool.not_true, Bool.not_false, reduceCtorEq] at hg)))
    | refine Awp.seq ?_)
        refine ⟨i + 1, ⟨by omega, hnx⟩, by omega, ?_⟩
        (apply Ghost.mk [] []; (case hdead => rfl); (case hinj => rfl); (case hV => (simp only [go_sem, *]) <;> (repeat' (first | exact View.int (by first | rfl | omega | (simp; done) | (rw [wrap_i64] <;> (try simp only [Int.natCast_add]) <;> omega) | (simp [*]; done))))); (case hB => (simp only [go_sem, *]) <;> (repeat' (first | skip; done))))
      · have hr := any_in hlt hB
        have hB' := hB
        unfold inB at hB'
        clear hj hB any_in any_end
        generalize l.getD i zeroSp = x at *
        rw [hr]
        repeat' (first
    | (apply Awp.sreg; (case hn => (simp only [List.length_cons, List.length_nil, Nat.reduceAdd] <;> rfl)))
    | (refine st_nil ?_)
    | (apply st_a; (case hc => rfl); (case he => (simp only [go_sem, *] <;> rfl)); (case hu => (simp only [updL_nil, updL_cons] <;> rfl)); (case hp => first | trivial | assumption | omega | (simp; done) | (simp; omega) | (simp [*]; done) | ((repeat' (refine And.intro ?_ ?_)) <;> first | trivial | assumption | omega | (simp; done) | (simp; omega) | (simp [*]; done))))
    | (apply st_m; (case hc => rfl); (case hg => (simp only [go_sem, *] <;> rfl)); (case he => (intro hQz; (try simp only [wantB_t, wantB_f, Bool.and_eq_true, Bool.not_eq_true', Bool.not_true, Bool.not_false, and_true, true_and] at hQz); simp only [go_sem, *] <;> rfl)); (case hp => (intro hQz; (try simp only [wantB_t, wantB_f, Bool.and_eq_true, Bool.not_eq_true', Bool.or_eq_false_iff, decide_eq_true_eq, decide_eq_false_iff_not, beq_iff_eq, beq_eq_false_iff_ne, bne_iff_ne, bne_eq_false_iff_eq, Int.not_lt, Int.not_le, Int.ofNat_lt, Int.ofNat_le] at hQz); first | trivial | assumption | omega | (simp; done) | (simp; omega) | (simp [*]; done) | ((repeat' (refine And.intro ?_ ?_)) <;> first | trivial | assumption | omega | (simp; done) | (simp; omega) | (simp [*]; done)))))
    | (refine Awp.ret ?_; try simp only [go_sem, *])
    | (refine Awp.skip ?_; try simp only [go_sem, *])
    | refine Awp.block ?_
    | (apply Awp.cond; (case hc => (simp only [go_sem, *] <;> rfl)); all_goals (intro hg; (try simp only [Bool.not_true, Bool.not_false, reduceCtorEq] at hg)))
    | refine Awp.seq ?_)
        all_goals repeat' (first | exact Lower.bool (by first | rfl | (simp only [true_and, Bool.true_and, Bool.false_and, Bool.and_true, Bool.and_false, Bool.true_or, Bool.false_or, reduceIte, Bool.false_eq_true, *]; done) | (simp only [true_and, reduceIte, Bool.false_eq_true, *] <;> rfl) | (simp [true_and]; done) | (simp_all [true_and]; done) | omega))
    · have hlt' : ¬ (i : Int) < l.length := by omega
      have hr := any_end fun j hjl => hj j (by omega)
      clear hj any_in any_end
      rw [hr]
      repeat' (first
    | (apply Awp.sreg; (case hn => (simp only [List.length_cons, List.length_nil, Nat.reduceAdd] <;> rfl)))
    | (refine st_nil ?_)
    | (apply st_a; (case hc => rfl); (case he => (simp only [go_sem, *] <;> rfl)); (case hu => (simp only [updL_nil, updL_cons] <;> rfl)); (case hp => first | trivial | assumption | omega | (simp; done) | (simp; omega) | (simp [*]; done) | ((repeat' (refine And.intro ?_ ?_)) <;> first | trivial | assumption | omega | (simp; done) | (simp; omega) | (simp [*]; done))))
    | (refine Awp.ret ?_; try simp only [go_sem, *])
    | (refine Awp.exit ?_; try simp only [go_sem, *])
    | (apply Awp.cond; (case hc => (simp only [go_sem, *] <;> rfl)); all_goals (intro hg; (try simp only [Bool.not_true, Bool.not_false, reduceCtorEq] at hg); (try have hg' := hg); (try simp only [decide_eq_true_eq, decide_eq_false_iff_not, Bool.and_eq_true, Bool.or_eq_false_iff, bne_iff_ne, bne_eq_false_iff_eq, beq_iff_eq, beq_eq_false_iff_ne, Int.not_lt, Int.not_le, Int.ofNat_lt, Int.ofNat_le, Int.natCast_inj] at hg')))
    | refine Awp.seq ?_)
      all_goals repeat' (first | exact Lower.bool (by first | rfl | (simp only [true_and, Bool.true_and, Bool.false_and, Bool.and_true, Bool.and_false, Bool.true_or, Bool.false_or, reduceIte, Bool.false_eq_true, *]; done) | (simp only [true_and, reduceIte, Bool.false_eq_true, *] <;> rfl) | (simp [true_and]; done) | (simp_all [true_and]; done) | omega))
theorem large_ok (a b : List Sp) : Pure Try.prog 11 [.sl (sps a), .sl (sps b)] (.v (.bool (decide ((60 : Int) < a.length) || decide ((60 : Int) < b.length)))) := by
  refine fn_pure Try.F11 (Nat.le_of_ble_eq_true rfl) ?_; unfold Try.ac11
  repeat' (first
    | (apply Awp.sreg; (case hn => (simp only [List.length_cons, List.length_nil, Nat.reduceAdd] <;> rfl)))
    | (refine st_nil ?_)
    | (apply st_a; (case hc => rfl); (case he => (simp only [go_sem, *] <;> rfl)); (case hu => (simp only [updL_nil, updL_cons] <;> rfl)); (case hp => first | trivial | assumption | omega | (simp; done) | (simp; omega) | (simp [*]; done) | ((repeat' (refine And.intro ?_ ?_)) <;> first | trivial | assumption | omega | (simp; done) | (simp; omega) | (simp [*]; done))))
    | (apply st_m; (case hc => rfl); (case hg => (simp only [go_sem, *] <;> rfl)); (case he => (intro hQz; (try simp only [wantB_t, wantB_f, Bool.and_eq_true, Bool.not_eq_true', Bool.not_true, Bool.not_false, and_true, true_and] at hQz); simp only [go_sem, *] <;> rfl)); (case hp => (intro hQz; (try simp only [wantB_t, wantB_f, Bool.and_eq_true, Bool.not_eq_true', Bool.or_eq_false_iff, decide_eq_true_eq, decide_eq_false_iff_not, beq_iff_eq, beq_eq_false_iff_ne, bne_iff_ne, bne_eq_false_iff_eq, Int.not_lt, Int.not_le, Int.ofNat_lt, Int.ofNat_le] at hQz); first | trivial | assumption | omega | (simp; done) | (simp; omega) | (simp [*]; done) | ((repeat' (refine And.intro ?_ ?_)) <;> first | trivial | assumption | omega | (simp; done) | (simp; omega) | (simp [*]; done)))))
    | (refine Awp.ret ?_; try simp only [go_sem, *]))
  all_goals repeat' (first | exact Lower.bool (by first | rfl | (simp only [true_and, Bool.true_and, Bool.false_and, Bool.and_true, Bool.and_false, Bool.true_or, Bool.false_or, reduceIte, Bool.false_eq_true, *]; done) | (simp only [true_and, reduceIte, Bool.false_eq_true, *] <;> rfl) | (simp [true_and]; done) | (simp_all [true_and]; done) | omega))
end Go.Proofs
end
section
set_option linter.unusedVariables false
set_option linter.unusedSimpArgs false
namespace Go.Proofs
open Go Go.Ab
set_option maxHeartbeats 4000000
set_option maxRecDepth 100000
set_option linter.unusedSimpArgs false
set_option linter.unusedVariables false
attribute [local irreducible] Awp aops aopsL Go.Ab.Pure PureOwn
def zrow : List AV := [.v (.int .i64 0), .v (.int .i64 0)]
def delRow (l : List Sp) : List (List AV) := sps (l.filter fullB) ++ List.replicate (l.length - (l.filter fullB).length) zrow
theorem full_not (s : Sp) : fullB s = !decide (s.b ≤ s.a) := by
  unfold fullB
  rw [Bool.eq_iff_iff]; simp
theorem filter_none {l : List Sp} (h : ∀ j, j < l.length → decide ((l.getD j zeroSp).b ≤ (l.getD j zeroSp).a) = false) : l.filter fullB = l := by
  rw [List.filter_eq_self]
  intro x hx
  obtain ⟨i, hi, rfl⟩ := List.getElem_of_mem hx
  have := h i hi
  rw [List.getD_eq_getElem?_getD, List.getElem?_eq_getElem hi] at this
  simp only [Option.getD_some] at this
  rw [full_not, this]; rfl
theorem idxF_some {α : Type} {p : α → Bool} {l : List α} (d : α) : (idxF p l = -1 ∧ ∀ j, j < l.length → p (l.getD j d) = false) ∨ ∃ i, i < l.length ∧ idxF p l = i ∧ p (l.getD i d) = true ∧ ∀ j, j < i → p (l.getD j d) = false := by
  have hg : ∀ j (hh : j < l.length), l.getD j d = l[j] := fun j hh => by simp [List.getD_eq_getElem?_getD, hh]
  unfold idxF
  by_cases h : l.findIdx p < l.length
  · right
    refine ⟨l.findIdx p, h, by rw [if_pos h], ?_, fun j hj => ?_⟩
    · rw [hg _ h]; exact List.findIdx_getElem (w := h)
    · rw [hg j (by omega)]
      have := List.not_of_lt_findIdx hj
      simpa using this
  · left
    refine ⟨by rw [if_neg h], fun j hj => ?_⟩
    rw [hg j hj]
    rw [Bool.eq_false_iff]
    intro hp
    exact h (List.findIdx_lt_length_of_exists ⟨_, List.getElem_mem hj, hp⟩)
def keepL (l : List Sp) (j : Nat) : List Sp := (l.take j).filter fullB
theorem take_snocS (l : List Sp) (i : Nat) (h : i < l.length) : l.take (i + 1) = l.take i ++ [l.getD i zeroSp] := by
  rw [List.take_add_one, List.getElem?_eq_getElem h]
  simp [List.getD_eq_getElem?_getD, h]
theorem keep_step (l : List Sp) (j : Nat) (h : j < l.length) : keepL l (j + 1) = keepL l j ++ (if fullB (l.getD j zeroSp) = true then [l.getD j zeroSp] else []) := by
  unfold keepL
  rw [take_snocS l j h, List.filter_append]
  congr 1
  by_cases hp : fullB (l.getD j zeroSp) = true
  · rw [if_pos hp, List.filter_cons_of_pos hp]; rfl
  · rw [if_neg hp, List.filter_cons_of_neg hp]; rfl
theorem drop_cons (l : List Sp) (j : Nat) (h : j < l.length) : l.drop j = l.getD j zeroSp :: l.drop (j + 1) := by
  rw [List.drop_eq_getElem_cons h]
  simp [List.getD_eq_getElem?_getD, h]
def dS (l : List Sp) (q : Nat × List Sp) : AState :=
  mkS [(0, .own 2), (1, .fn 34 []), (5, .v (.int .i64 (keepL l q.1).length)), (6, .v (.int .i64 q.1))] [(2, .row (sps (keepL l q.1 ++ q.2 ++ l.drop q.1)) 2 29)]
theorem del_cc (l : List Sp) (nm : Nat) (hl : l.length < 100000) (hnm : 3 ≤ nm) :
    CallC Try.prog 32 [.own 2, .fn 34 []] [(2, .row (sps l) 2 29)] nm (.pre 2 (l.filter fullB).length) [(2, some (.row (delRow l) 2 29))] := by
  have c0 := indexN_ok l 34 (fun s => decide (s.b ≤ s.a)) (by omega) empty_ok
  have hll := sps_len l
  rcases idxF_some (p := fun s : Sp => decide (s.b ≤ s.a)) (l := l) zeroSp with ⟨e, hall⟩ | ⟨i0, hi0, e, hp, hall⟩
  · have hf := filter_none hall
    have hd : delRow l = sps l := by unfold delRow; rw [hf]; simp
    rw [hd, hf]
    rw [e] at c0
    have key : CallC Try.prog 32 [.own 2, .fn 34 []] [(2, .row (sps l) 2 29)] nm (.own 2) [(2, some (.row (sps l) 2 29))] := by
      refine fn_cc Try.F32 (Nat.le_of_ble_eq_true rfl) (bs := 3) ?_ ?_ ?_ ?_ ?_ ?_ ?_
      · simp
      · simp; omega
      · simp
      · simp
      · simp only [List.map_cons, List.map_nil, List.mem_cons, List.not_mem_nil, or_false]
        rintro p rfl
        exact .row rfl
      · intro j hj
        match j, hj with
        | 0, _ => exact .own rfl (by simp)
        | 1, _ => exact .fn rfl fun j hj => by simp at hj
      · unfold Try.ac32
        clear hd hf hall e
        have hav0 : av [AV.own 2, AV.fn 34 []] 0 = AV.own 2 := rfl
        have hav1 : av [AV.own 2, AV.fn 34 []] 1 = AV.fn 34 [] := rfl
        repeat' (first
    | (apply Awp.sreg; (case hn => (simp only [List.length_cons, List.length_nil, Nat.reduceAdd] <;> rfl)))
    | (refine st_nil ?_)
    | (apply st_a; (case hc => rfl); (case he => (simp only [go_sem, *] <;> rfl)); (case hu => (simp only [updL_nil, updL_cons] <;> rfl)); (case hp => first | trivial | assumption | omega | (simp; done) | (simp; omega) | (simp [*]; done) | ((repeat' (refine And.intro ?_ ?_)) <;> first | trivial | assumption | omega | (simp; done) | (simp; omega) | (simp [*]; done))))
    | (apply st_cd; (case hc => (simp only [go_sem, *] <;> rfl)); (case hl => (simp only [go_sem, *] <;> rfl)); (case hn => (simp only [go_sem, *] <;> rfl)); (case hp => first | exact c0 | (have hXz := c0; simp only [go_sem, *] at hXz; exact hXz)); (case hd => first | exact .v _ | exact .any | exact .nils | (repeat' (first | exact Dry.v _ | exact Dry.any | exact Dry.nils | exact Dry.slE | refine Dry.agg ?_ | refine Dry.tup ?_ | (refine List.forall_mem_cons.2 (And.intro ?_ ?_)) | (intro cQ hQ; cases hQ; done)))); (case hm => first | decide | (simp; done)))
    | (refine Awp.ret ?_; try simp only [go_sem, *])
    | (apply Awp.cond; (case hc => (simp only [go_sem, *] <;> rfl)); all_goals (intro hg; (try simp only [Bool.not_true, Bool.not_false, reduceCtorEq] at hg)))
    | refine Awp.seq ?_)
        have hr : ∀ k, k < 3 → rn nm 3 k = k := fun k hk => by unfold rn; rw [if_neg (by omega)]
        refine ⟨3, Nat.le_refl _, .own (hr 2 (by omega)) (by simp), fun k b' hk => ?_⟩
        by_cases h2 : k = 2
        · subst h2
          have e1 : b' = .row (sps l) 2 29 := by simpa [upd] using hk.symm
          subst e1
          rw [hr 2 (by omega)]
          exact ⟨_, rfl, .row rfl⟩
        · simp [upd, updL, listH, h2] at hk
    have := key.ownPre (es := sps l) (sz := 2) (e := 29) (by simp [updL, upd]) (by simp)
    rw [sps_len] at this
    exact this
  · rw [e] at c0
    refine fn_cc Try.F32 (Nat.le_of_ble_eq_true rfl) (bs := 3) ?_ ?_ ?_ ?_ ?_ ?_ ?_
    · simp
    · simp; omega
    · simp
    · simp
    · simp only [List.map_cons, List.map_nil, List.mem_cons, List.not_mem_nil, or_false]
      rintro p rfl
      exact .row rfl
    · intro j hj
      match j, hj with
      | 0, _ => exact .own rfl (by simp)
      | 1, _ => exact .fn rfl fun j hj => by simp at hj
    · unfold Try.ac32
      have hav0 : av [AV.own 2, AV.fn 34 []] 0 = AV.own 2 := rfl
      have hav1 : av [AV.own 2, AV.fn 34 []] 1 = AV.fn 34 [] := rfl
      have hk0 : keepL l i0 = l.take i0 := by
        unfold keepL
        rw [List.filter_eq_self]
        intro x hx
        obtain ⟨j, hj, rfl⟩ := List.mem_take_iff_getElem.1 hx
        have := hall j (by omega)
        rw [List.getD_eq_getElem?_getD, List.getElem?_eq_getElem (by omega)] at this
        simp only [Option.getD_some] at this
        rw [full_not, this]; rfl
      have hk1 : keepL l (i0 + 1) = l.take i0 := by
        rw [keep_step l i0 hi0, full_not, hp, hk0]; simp
      have hrow : keepL l (i0 + 1) ++ [l.getD i0 zeroSp] ++ l.drop (i0 + 1) = l := by
        rw [hk1, List.append_assoc, List.singleton_append, ← drop_cons l i0 hi0, List.take_append_drop]
      have hk1l : (keepL l (i0 + 1)).length = i0 := by rw [hk1]; simp; omega
      have hne : ((i0 : Int) == -1) = false := by simp
      have hw : IntKind.i64.wrap ((i0 : Int) + 1) = ((i0 + 1 : Nat) : Int) := by rw [wrap_i64 (by omega) (by omega)]; simp
      clear hall e hp hk0 hk1
      repeat' (first
    | (apply Awp.sreg; (case hn => (simp only [List.length_cons, List.length_nil, Nat.reduceAdd] <;> rfl)))
    | (refine st_nil ?_)
    | (apply st_a; (case hc => rfl); (case he => (simp only [go_sem, *] <;> rfl)); (case hu => (simp only [updL_nil, updL_cons] <;> rfl)); (case hp => first | trivial | assumption | omega | (simp; done) | (simp; omega) | (simp [*]; done) | ((repeat' (refine And.intro ?_ ?_)) <;> first | trivial | assumption | omega | (simp; done) | (simp; omega) | (simp [*]; done))))
    | (apply st_cd; (case hc => (simp only [go_sem, *] <;> rfl)); (case hl => (simp only [go_sem, *] <;> rfl)); (case hn => (simp only [go_sem, *] <;> rfl)); (case hp => first | exact c0 | (have hXz := c0; simp only [go_sem, *] at hXz; exact hXz)); (case hd => first | exact .v _ | exact .any | exact .nils | (repeat' (first | exact Dry.v _ | exact Dry.any | exact Dry.nils | exact Dry.slE | refine Dry.agg ?_ | refine Dry.tup ?_ | (refine List.forall_mem_cons.2 (And.intro ?_ ?_)) | (intro cQ hQ; cases hQ; done)))); (case hm => first | decide | (simp; done)))
    | (refine Awp.skip ?_; try simp only [go_sem, *])
    | refine Awp.block ?_
    | (apply Awp.cond; (case hc => (simp only [go_sem, *] <;> rfl)); all_goals (intro hg; (try simp only [Bool.not_true, Bool.not_false, reduceCtorEq] at hg)))
    | refine Awp.seq ?_)
      refine Awp.loop (fun q : Nat × List Sp => q.1 ≤ l.length ∧ 0 < q.2.length ∧ (keepL l q.1).length + q.2.length = q.1) 100 (dS l) (fun q => l.length - q.1) (i0 + 1, [l.getD i0 zeroSp]) ⟨by dsimp only; omega, by simp, by dsimp only; rw [hk1l]; simp⟩ ?_ ?_
      · unfold dS
        dsimp only
        rw [hrow, hk1l]
        (apply Ghost.mkB []; (case hnb => rfl); (case hbx => omega); (case hinj => rfl); (case hV => (simp only [go_sem, *]) <;> (repeat' (first | refine And.intro ?_ ?_ | exact .own rfl (by decide) | (refine View.fnF ?_; (simp [AV.flat]; done))))); (case hB => (simp only [go_sem, *]) <;> (repeat' (first | exact ⟨_, rfl, .rowE (by first | rfl | omega | (simp; done) | (rw [wrap_i64] <;> (try simp only [Int.natCast_add]) <;> omega) | (simp [*]; done))⟩))))
      · rintro ⟨j, G⟩ ⟨hj, hG, hKG⟩
        dsimp only at hj hG hKG
        clear hrow hk1l hne hw c0
        have hlen : (sps (keepL l j ++ G ++ l.drop j)).length = l.length := by rw [sps_len]; simp; omega
        by_cases hlt : j < l.length
        · have hlt' : (j : Int) < l.length := by omega
          have hat : (sps (keepL l j ++ G ++ l.drop j)).getD j [] = (l.getD j zeroSp).cells := by
            rw [sps_at _ _ (by simp; omega)]
            congr 1
            simp only [List.getD_eq_getElem?_getD]
            rw [List.getElem?_append_right (by simp; omega)]
            simp [hKG]
          have hz : ((l.getD j zeroSp).cells).length = 2 := rfl
          have hst := keep_step l j hlt
          have hdr := drop_cons l j hlt
          have hc := empty_ok (l.getD j zeroSp)
          obtain ⟨g, G', rfl⟩ : ∃ g G', G = g :: G' := by
            cases G with
            | nil => simp at hG
            | cons g G' => exact ⟨g, G', rfl⟩
          have hKl : (keepL l j).length < l.length := by simp at hKG; omega
          cases hB : decide ((l.getD j zeroSp).b ≤ (l.getD j zeroSp).a)
          · rw [hB] at hc
            rw [full_not, hB] at hst
            simp only [Bool.not_false, if_true] at hst
            have hkl2 : (keepL l (j + 1)).length = (keepL l j).length + 1 := by rw [hst]; simp
            have hset : (sps (keepL l j ++ g :: G' ++ l.drop j)).set (keepL l j).length (splice ((sps (keepL l j ++ g :: G' ++ l.drop j)).getD (keepL l j).length []) 0 [.v (.int .i64 (l.getD j zeroSp).a), .v (.int .i64 (l.getD j zeroSp).b)]) = sps (keepL l (j + 1) ++ (G' ++ [l.getD j zeroSp]) ++ l.drop (j + 1)) := by
              rw [sps_at _ _ (by simp)]
              have e1 : splice ((keepL l j ++ g :: G' ++ l.drop j).getD (keepL l j).length zeroSp).cells 0 [.v (.int .i64 (l.getD j zeroSp).a), .v (.int .i64 (l.getD j zeroSp).b)] = [.v (.int .i64 (l.getD j zeroSp).a), .v (.int .i64 (l.getD j zeroSp).b)] := rfl
              rw [e1, sps_set, hst, hdr]
              congr 1
              rw [List.append_assoc, List.set_append]
              simp
            have hcells : ((sps (keepL l j ++ g :: G' ++ l.drop j)).getD (keepL l j).length []).length = 2 := by
              rw [sps_at _ _ (by simp)]; rfl
            have hinv : (keepL l (j + 1)).length + (G' ++ [l.getD j zeroSp]).length = j + 1 := by
              rw [hkl2]; simp at hKG ⊢; omega
            have hw2 : IntKind.i64.wrap (((keepL l j).length : Int) + 1) = ((keepL l (j + 1)).length : Int) := by rw [hkl2, wrap_i64 (by omega) (by omega)]; simp
            unfold dS
            dsimp only
            generalize hE : sps (keepL l j ++ g :: G' ++ l.drop j) = E at *
            generalize hk : (keepL l j).length = K at *
            generalize l.getD j zeroSp = v at *
            clear hst hdr hB hk hE hkl2
            repeat' (first
    | (apply Awp.sreg; (case hn => (simp only [List.length_cons, List.length_nil, Nat.reduceAdd] <;> rfl)))
    | (refine st_nil ?_)
    | (apply st_a; (case hc => rfl); (case he => (simp only [go_sem, *] <;> rfl)); (case hu => (simp only [updL_nil, updL_cons] <;> rfl)); (case hp => first | trivial | assumption | omega | (simp; done) | (simp; omega) | (simp [*]; done) | ((repeat' (refine And.intro ?_ ?_)) <;> first | trivial | assumption | omega | (simp; done) | (simp; omega) | (simp [*]; done))))
    | (apply st_c; (case hc => (simp only [go_sem, *] <;> rfl)); (case hl => (simp only [go_sem, *] <;> rfl)); (case hn => (simp only [go_sem, *] <;> rfl)); (case hp => first | exact hc | (have hXz := hc; simp only [go_sem, *] at hXz; exact hXz)))
    | (apply Awp.reg; (case hn => (simp only [List.length_cons, List.length_nil, Nat.reduceAdd] <;> rfl)))
    | (refine Awp.skip ?_; try simp only [go_sem, *])
    | refine Awp.block ?_
    | (apply Awp.cond; (case hc => (simp only [go_sem, *] <;> rfl)); all_goals (intro hg; (try simp only [Bool.not_true, Bool.not_false, reduceCtorEq] at hg)))
    | refine Awp.seq ?_)
            refine ⟨(j + 1, G' ++ [v]), ⟨by dsimp only; omega, by simp, hinv⟩, by dsimp only; omega, ?_⟩
            dsimp only
            (apply Ghost.mkB []; (case hnb => rfl); (case hbx => omega); (case hinj => rfl); (case hV => (simp only [go_sem, *]) <;> (repeat' (first | refine And.intro ?_ ?_ | exact View.int (by first | rfl | exact hset | omega | (simp; done) | (rw [wrap_i64] <;> (try simp only [Int.natCast_add]) <;> omega) | (simp [*]; done)) | exact .own rfl (by decide) | (refine View.fnF ?_; (simp [AV.flat]; done))))); (case hB => (simp only [go_sem, *]) <;> (repeat' (first | exact ⟨_, rfl, .rowE (by first | rfl | exact hset | omega | (simp; done) | (rw [wrap_i64] <;> (try simp only [Int.natCast_add]) <;> omega) | (simp [*]; done))⟩))))
          · rw [hB] at hc
            rw [full_not, hB] at hst
            simp only [Bool.not_true, Bool.false_eq_true, if_false, List.append_nil] at hst
            have hrow2 : keepL l (j + 1) ++ (g :: G' ++ [l.getD j zeroSp]) ++ l.drop (j + 1) = keepL l j ++ g :: G' ++ l.drop j := by
              rw [hst, hdr]; simp
            have hinv : (keepL l (j + 1)).length + (g :: G' ++ [l.getD j zeroSp]).length = j + 1 := by
              rw [hst]; simp at hKG ⊢; omega
            unfold dS
            dsimp only
            rw [← hst] at hat hlen hKl hrow2 ⊢
            generalize l.getD j zeroSp = v at *
            generalize hE : sps (keepL l (j + 1) ++ g :: G' ++ l.drop j) = E at *
            clear hst hdr hB
            repeat' (first
    | (apply Awp.sreg; (case hn => (simp only [List.length_cons, List.length_nil, Nat.reduceAdd] <;> rfl)))
    | (refine st_nil ?_)
    | (apply st_a; (case hc => rfl); (case he => (simp only [go_sem, *] <;> rfl)); (case hu => (simp only [updL_nil, updL_cons] <;> rfl)); (case hp => first | trivial | assumption | omega | (simp; done) | (simp; omega) | (simp [*]; done) | ((repeat' (refine And.intro ?_ ?_)) <;> first | trivial | assumption | omega | (simp; done) | (simp; omega) | (simp [*]; done))))
    | (apply st_c; (case hc => (simp only [go_sem, *] <;> rfl)); (case hl => (simp only [go_sem, *] <;> rfl)); (case hn => (simp only [go_sem, *] <;> rfl)); (case hp => first | exact hc | (have hXz := hc; simp only [go_sem, *] at hXz; exact hXz)))
    | (apply Awp.reg; (case hn => (simp only [List.length_cons, List.length_nil, Nat.reduceAdd] <;> rfl)))
    | (refine Awp.skip ?_; try simp only [go_sem, *])
    | refine Awp.block ?_
    | (apply Awp.cond; (case hc => (simp only [go_sem, *] <;> rfl)); all_goals (intro hg; (try simp only [Bool.not_true, Bool.not_false, reduceCtorEq] at hg)))
    | refine Awp.seq ?_)
            refine ⟨(j + 1, g :: G' ++ [v]), ⟨by dsimp only; omega, by simp, hinv⟩, by dsimp only; omega, ?_⟩
            dsimp only
            rw [hrow2, hE]
            (apply Ghost.mkB []; (case hnb => rfl); (case hbx => omega); (case hinj => rfl); (case hV => (simp only [go_sem, *]) <;> (repeat' (first | refine And.intro ?_ ?_ | exact View.int (by first | rfl | omega | (simp; done) | (rw [wrap_i64] <;> (try simp only [Int.natCast_add]) <;> omega) | (simp [*]; done)) | exact .own rfl (by decide) | (refine View.fnF ?_; (simp [AV.flat]; done))))); (case hB => (simp only [go_sem, *]) <;> (repeat' (first | exact ⟨_, rfl, .rowE (by first | rfl | omega | (simp; done) | (rw [wrap_i64] <;> (try simp only [Int.natCast_add]) <;> omega) | (simp [*]; done))⟩))))
        · have hlt' : ¬ (j : Int) < l.length := by omega
          have hjl : j = l.length := by omega
          have hdr : l.drop j = [] := List.drop_eq_nil_of_le (by omega)
          have hkf : keepL l j = l.filter fullB := by unfold keepL; rw [List.take_of_length_le (by omega)]
          have hfin : (sps (keepL l j ++ G ++ l.drop j)).take (keepL l j).length ++ List.replicate ((sps (keepL l j ++ G ++ l.drop j)).length - (keepL l j).length) [AV.v (.int .i64 0), .v (.int .i64 0)] = delRow l := by
            rw [hlen]
            unfold delRow zrow
            rw [← hkf]
            congr 1
            rw [List.append_assoc, sps_append, ← sps_len (keepL l j), List.take_left]
          have hpl : (l.filter fullB).length = (keepL l j).length := by rw [hkf]
          have hKl : (keepL l j).length < l.length := by omega
          rw [hpl]
          unfold dS
          dsimp only
          generalize hE : sps (keepL l j ++ G ++ l.drop j) = E at *
          generalize (keepL l j).length = K at *
          clear hE hdr hkf hpl hjl
          repeat' (first
    | (apply Awp.sreg; (case hn => (simp only [List.length_cons, List.length_nil, Nat.reduceAdd] <;> rfl)))
    | (refine st_nil ?_)
    | (apply st_a; (case hc => rfl); (case he => (simp only [go_sem, *] <;> rfl)); (case hu => (simp only [updL_nil, updL_cons] <;> rfl)); (case hp => first | trivial | assumption | omega | (simp; done) | (simp; omega) | (simp [*]; done) | ((repeat' (refine And.intro ?_ ?_)) <;> first | trivial | assumption | omega | (simp; done) | (simp; omega) | (simp [*]; done))))
    | (refine Awp.ret ?_; try simp only [go_sem, *])
    | (refine Awp.exit ?_; try simp only [go_sem, *])
    | (apply Awp.cond; (case hc => (simp only [go_sem, *] <;> rfl)); all_goals (intro hg; (try simp only [Bool.not_true, Bool.not_false, reduceCtorEq] at hg)))
    | refine Awp.seq ?_)
          have hr : ∀ k, k < 3 → rn nm 3 k = k := fun k hk => by unfold rn; rw [if_neg (by omega)]
          refine ⟨3, Nat.le_refl _, .pre (hr 2 (by omega)) (by simp), fun k b' hk => ?_⟩
          by_cases h2 : k = 2
          · subst h2
            have e1 : b' = .row (delRow l) 2 29 := by simpa [upd] using hk.symm
            subst e1
            rw [hr 2 (by omega)]
            exact ⟨_, rfl, .row (by rw [hlen] at hfin; exact hfin)⟩
          · simp [upd, updL, listH, h2] at hk
end Go.Proofs
end
section
set_option linter.unusedVariables false
set_option linter.unusedSimpArgs false
namespace Go.Proofs
open Go Go.Ab
set_option maxHeartbeats 4000000
set_option maxRecDepth 100000
set_option linter.unusedSimpArgs false
set_option linter.unusedVariables false
attribute [local irreducible] Awp aops aopsL Go.Ab.Pure PureOwn
theorem take_snocP (l : List Sp) (i : Nat) (h : i < l.length) : l.take (i + 1) = l.take i ++ [l.getD i zeroSp] := by
  rw [List.take_add_one, List.getElem?_eq_getElem h]
  simp [List.getD_eq_getElem?_getD, h]
theorem drop_consP (l : List Sp) (j : Nat) (h : j < l.length) : l.drop j = l.getD j zeroSp :: l.drop (j + 1) := by
  rw [List.drop_eq_getElem_cons h]
  simp [List.getD_eq_getElem?_getD, h]
theorem sps_store {L : List Sp} {i : Nat} {x : Sp} (h : i < L.length) : (sps L).set i (splice ((sps L).getD i []) 0 [.v (.int .i64 x.a), .v (.int .i64 x.b)]) = sps (L.set i x) := by
  rw [sps_at _ _ h, ← sps_set]
  rfl
theorem sps_store1 {L : List Sp} {i : Nat} {v : Int} (h : i < L.length) : (sps L).set i (splice ((sps L).getD i []) 1 [.v (.int .i64 v)]) = sps (L.set i ⟨(L.getD i zeroSp).a, v⟩) := by
  rw [sps_at _ _ h, ← sps_set]
  rfl
theorem same_ok (a : List Sp) (hl : a.length < 1000000) : Pure Try.prog 13 [.sl (sps a), .sl (sps a)] (.v (.bool true)) := by
  have hn : ((a.length : Int) != a.length) = false := by simp
  refine fn_pure Try.F13 (Nat.le_of_ble_eq_true rfl) ?_; unfold Try.ac13
  repeat' (first
    | (apply Awp.sreg; (case hn => (simp only [List.length_cons, List.length_nil, Nat.reduceAdd] <;> rfl)))
    | (refine st_nil ?_)
    | (apply st_a; (case hc => rfl); (case he => (simp only [go_sem, *] <;> rfl)); (case hu => (simp only [updL_nil, updL_cons] <;> rfl)); (case hp => first | trivial | assumption | omega | (simp; done) | (simp; omega) | (simp [*]; done) | ((repeat' (refine And.intro ?_ ?_)) <;> first | trivial | assumption | omega | (simp; done) | (simp; omega) | (simp [*]; done))))
    | (refine Awp.skip ?_; try simp only [go_sem, *])
    | refine Awp.block ?_
    | (apply Awp.cond; (case hc => (simp only [go_sem, *] <;> rfl)); all_goals (intro hg; (try simp only [Bool.not_true, Bool.not_false, reduceCtorEq] at hg)))
    | refine Awp.seq ?_)
  clear hn
  refine Awp.loop (fun i : Nat => i ≤ a.length) 60 (fun i => mkS [(0, .sl (sps a)), (1, .sl (sps a)), (5, .v (.int .i64 i))] []) (fun i => a.length - i) 0 (by omega) ?_ ?_
  · (apply Ghost.mk [] []; (case hdead => rfl); (case hinj => rfl); (case hV => (simp only [go_sem, *]) <;> (repeat' (first | exact View.int (by first | rfl | omega | (simp; done) | (rw [wrap_i64] <;> (try simp only [Int.natCast_add]) <;> omega) | (simp [*]; done))))); (case hB => (simp only [go_sem, *]) <;> (repeat' (first | skip; done))))
  · intro i hi
    by_cases hlt : i < a.length
    · have hlt' : (i : Int) < a.length := by omega
      have hat := sps_at a i hlt
      have hz : ((a.getD i zeroSp).cells).length = 2 := rfl
      generalize a.getD i zeroSp = x at *
      have e1 : (x.a == x.a) = true := by simp
      have e2 : (x.b == x.b) = true := by simp
      have e3 : (true ^^ true) = false := rfl
      repeat' (first
    | (apply Awp.sreg; (case hn => (simp only [List.length_cons, List.length_nil, Nat.reduceAdd] <;> rfl)))
    | (apply Awp.sdraw; (case hn => (simp only [List.length_cons, List.length_nil, Nat.reduceAdd] <;> rfl)))
    | (refine st_nil ?_)
    | (apply st_a; (case hc => rfl); (case he => (simp only [go_sem, *] <;> rfl)); (case hu => (simp only [updL_nil, updL_cons] <;> rfl)); (case hp => first | trivial | assumption | omega | (simp; done) | (simp; omega) | (simp [*]; done) | ((repeat' (refine And.intro ?_ ?_)) <;> first | trivial | assumption | omega | (simp; done) | (simp; omega) | (simp [*]; done))))
    | (apply Awp.reg; (case hn => (simp only [List.length_cons, List.length_nil, Nat.reduceAdd] <;> rfl)))
    | (refine Awp.skip ?_; try simp only [go_sem, *])
    | refine Awp.block ?_
    | (apply Awp.cond; (case hc => (simp only [go_sem, *] <;> rfl)); all_goals (intro hg; (try simp only [Bool.not_true, Bool.not_false, reduceCtorEq] at hg)))
    | refine Awp.seq ?_
    | (apply sl_a; (case hc => rfl); (case he => (simp only [go_sem, *] <;> rfl)); (case hu => (simp only [updL_nil, updL_cons] <;> rfl)); (case hl => (simp only [List.map_cons, List.map_nil] <;> rfl)); (case hp => first | trivial | assumption | omega | (simp; done) | (simp; omega) | (simp [*]; done) | ((repeat' (refine And.intro ?_ ?_)) <;> first | trivial | assumption | omega | (simp; done) | (simp; omega) | (simp [*]; done))))
    | (refine sl_nil (And.intro (by first | exact drawOk_of (by decide +kernel) | (simp only [List.map_cons, List.map_nil]; exact drawOk_of (by decide +kernel)) | decide) ?_)))
      refine ⟨i + 1, by omega, by omega, ?_⟩
      (apply Ghost.mk [] []; (case hdead => rfl); (case hinj => rfl); (case hV => (simp only [go_sem, *]) <;> (repeat' (first | exact View.int (by first | rfl | omega | (simp; done) | (rw [wrap_i64] <;> (try simp only [Int.natCast_add]) <;> omega) | (simp [*]; done))))); (case hB => (simp only [go_sem, *]) <;> (repeat' (first | skip; done))))
    · have hlt' : ¬ (i : Int) < a.length := by omega
      repeat' (first
    | (apply Awp.sreg; (case hn => (simp only [List.length_cons, List.length_nil, Nat.reduceAdd] <;> rfl)))
    | (refine st_nil ?_)
    | (apply st_a; (case hc => rfl); (case he => (simp only [go_sem, *] <;> rfl)); (case hu => (simp only [updL_nil, updL_cons] <;> rfl)); (case hp => first | trivial | assumption | omega | (simp; done) | (simp; omega) | (simp [*]; done) | ((repeat' (refine And.intro ?_ ?_)) <;> first | trivial | assumption | omega | (simp; done) | (simp; omega) | (simp [*]; done))))
    | (refine Awp.ret ?_; try simp only [go_sem, *])
    | (refine Awp.exit ?_; try simp only [go_sem, *])
    | (apply Awp.cond; (case hc => (simp only [go_sem, *] <;> rfl)); all_goals (intro hg; (try simp only [Bool.not_true, Bool.not_false, reduceCtorEq] at hg); (try have hg' := hg); (try simp only [decide_eq_true_eq, decide_eq_false_iff_not, Bool.and_eq_true, Bool.or_eq_false_iff, bne_iff_ne, bne_eq_false_iff_eq, beq_iff_eq, beq_eq_false_iff_ne, Int.not_lt, Int.not_le, Int.ofNat_lt, Int.ofNat_le, Int.natCast_inj] at hg')))
    | refine Awp.seq ?_)
      all_goals repeat' (first | exact Lower.bool (by first | rfl | (simp only [true_and, Bool.true_and, Bool.false_and, Bool.and_true, Bool.and_false, Bool.true_or, Bool.false_or, reduceIte, Bool.false_eq_true, *]; done) | (simp only [true_and, reduceIte, Bool.false_eq_true, *] <;> rfl) | (simp [true_and]; done) | (simp_all [true_and]; done) | omega))
theorem canonical_ok (a : List Sp) (ha : Canon a) (hl : a.length < 1000000) : Pure Try.prog 31 [.sl (sps a)] (.v (.bool true)) := by
  refine fn_pure Try.F31 (Nat.le_of_ble_eq_true rfl) ?_; unfold Try.ac31
  repeat' (first
    | (apply Awp.sreg; (case hn => (simp only [List.length_cons, List.length_nil, Nat.reduceAdd] <;> rfl)))
    | (refine st_nil ?_)
    | (apply st_a; (case hc => rfl); (case he => (simp only [go_sem, *] <;> rfl)); (case hu => (simp only [updL_nil, updL_cons] <;> rfl)); (case hp => first | trivial | assumption | omega | (simp; done) | (simp; omega) | (simp [*]; done) | ((repeat' (refine And.intro ?_ ?_)) <;> first | trivial | assumption | omega | (simp; done) | (simp; omega) | (simp [*]; done))))
    | refine Awp.block ?_
    | refine Awp.seq ?_)
  refine Awp.loop (fun i : Nat => i ≤ a.length) 60 (fun i => mkS [(0, .sl (sps a)), (3, .v (.int .i64 i))] []) (fun i => a.length - i) 0 (by omega) ?_ ?_
  · (apply Ghost.mk [] []; (case hdead => rfl); (case hinj => rfl); (case hV => (simp only [go_sem, *]) <;> (repeat' (first | exact View.int (by first | rfl | omega | (simp; done) | (rw [wrap_i64] <;> (try simp only [Int.natCast_add]) <;> omega) | (simp [*]; done))))); (case hB => (simp only [go_sem, *]) <;> (repeat' (first | skip; done))))
  · intro i hi
    by_cases hlt : i < a.length
    · have hlt' : (i : Int) < a.length := by omega
      have hat := sps_at a i hlt
      have hz : ((a.getD i zeroSp).cells).length = 2 := rfl
      have hget : ∀ j (hh : j < a.length), a.getD j zeroSp = a[j] := fun j hh => by simp [List.getD_eq_getElem?_getD, hh]
      have h1 : decide ((a.getD i zeroSp).b ≤ (a.getD i zeroSp).a) = false := by
        have := ha.2 (a.getD i zeroSp) (by rw [hget i hlt]; exact List.getElem_mem hlt)
        exact decide_eq_false (by omega)
      have hw : IntKind.i64.wrap ((i : Int) + 1) = ((i + 1 : Nat) : Int) := by rw [wrap_i64 (by omega) (by omega)]; simp
      by_cases hi0 : i = 0
      · subst hi0
        generalize a.getD 0 zeroSp = x at *
        clear hget hw
        repeat' (first
    | (apply Awp.sreg; (case hn => (simp only [List.length_cons, List.length_nil, Nat.reduceAdd] <;> rfl)))
    | (apply Awp.sdraw; (case hn => (simp only [List.length_cons, List.length_nil, Nat.reduceAdd] <;> rfl)))
    | (refine st_nil ?_)
    | (apply st_a; (case hc => rfl); (case he => (simp only [go_sem, *] <;> rfl)); (case hu => (simp only [updL_nil, updL_cons] <;> rfl)); (case hp => first | trivial | assumption | omega | (simp; done) | (simp; omega) | (simp [*]; done) | ((repeat' (refine And.intro ?_ ?_)) <;> first | trivial | assumption | omega | (simp; done) | (simp; omega) | (simp [*]; done))))
    | (apply Awp.reg; (case hn => (simp only [List.length_cons, List.length_nil, Nat.reduceAdd] <;> rfl)))
    | (refine Awp.skip ?_; try simp only [go_sem, *])
    | refine Awp.block ?_
    | (apply Awp.cond; (case hc => (simp only [go_sem, *] <;> rfl)); all_goals (intro hg; (try simp only [Bool.not_true, Bool.not_false, reduceCtorEq] at hg)))
    | refine Awp.seq ?_
    | (apply sl_a; (case hc => rfl); (case he => (simp only [go_sem, *] <;> rfl)); (case hu => (simp only [updL_nil, updL_cons] <;> rfl)); (case hl => (simp only [List.map_cons, List.map_nil] <;> rfl)); (case hp => first | trivial | assumption | omega | (simp; done) | (simp; omega) | (simp [*]; done) | ((repeat' (refine And.intro ?_ ?_)) <;> first | trivial | assumption | omega | (simp; done) | (simp; omega) | (simp [*]; done))))
    | (apply sl_gn; (case hv => (simp only [go_sem, *] <;> rfl)); (case hbw => rfl))
    | (apply sl_ga; (case hb => rfl); (case hv => (simp only [go_sem, *] <;> rfl)); (case he => (simp only [go_sem, *] <;> rfl)); (case hu => (simp only [updL_nil, updL_cons] <;> rfl)); (case hl => (simp only [List.map_cons, List.map_nil] <;> rfl)); (case hp => first | trivial | assumption | omega | (simp; done) | (simp; omega) | (simp [*]; done) | ((repeat' (refine And.intro ?_ ?_)) <;> first | trivial | assumption | omega | (simp; done) | (simp; omega) | (simp [*]; done))))
    | (refine sl_nil (And.intro (by first | exact drawOk_of (by decide +kernel) | (simp only [List.map_cons, List.map_nil]; exact drawOk_of (by decide +kernel)) | decide) ?_)))
        refine ⟨0 + 1, by omega, by omega, ?_⟩
        (apply Ghost.mk [] []; (case hdead => rfl); (case hinj => rfl); (case hV => (simp only [go_sem, *]) <;> (repeat' (first | exact View.int (by first | rfl | omega | (simp; done) | (rw [wrap_i64] <;> (try simp only [Int.natCast_add]) <;> omega) | (simp [*]; done))))); (case hB => (simp only [go_sem, *]) <;> (repeat' (first | skip; done))))
      · obtain ⟨k, hk⟩ : ∃ k, i = k + 1 := ⟨i - 1, by omega⟩
        have hatk := sps_at a k (by omega)
        have hzk : ((a.getD k zeroSp).cells).length = 2 := rfl
        have h2 : decide ((a.getD i zeroSp).a ≤ (a.getD k zeroSp).b) = false := by
          have := List.pairwise_iff_getElem.1 ha.1 k i (by omega) hlt (by omega)
          rw [← hget k (by omega), ← hget i hlt] at this
          exact decide_eq_false (by omega)
        have h3 : IntKind.i64.wrap ((i : Int) - 1) = k := by rw [wrap_i64 (by omega) (by omega)]; omega
        have h4 : decide ((0 : Int) < i) = true := decide_eq_true (by omega)
        have hkK : (k : Int) < a.length := by omega
        have hiN : i + 1 ≤ a.length := by omega
        have hme : a.length - (i + 1) < a.length - i := by omega
        generalize a.getD k zeroSp = y at *
        generalize a.getD i zeroSp = x at *
        clear hget hk hi0
        repeat' (first
    | (apply Awp.sreg; (case hn => (simp only [List.length_cons, List.length_nil, Nat.reduceAdd] <;> rfl)))
    | (apply Awp.sdraw; (case hn => (simp only [List.length_cons, List.length_nil, Nat.reduceAdd] <;> rfl)))
    | (refine st_nil ?_)
    | (apply st_a; (case hc => rfl); (case he => (simp only [go_sem, *] <;> rfl)); (case hu => (simp only [updL_nil, updL_cons] <;> rfl)); (case hp => first | trivial | assumption | omega | (simp; done) | (simp; omega) | (simp [*]; done) | ((repeat' (refine And.intro ?_ ?_)) <;> first | trivial | assumption | omega | (simp; done) | (simp; omega) | (simp [*]; done))))
    | (apply Awp.reg; (case hn => (simp only [List.length_cons, List.length_nil, Nat.reduceAdd] <;> rfl)))
    | (refine Awp.skip ?_; try simp only [go_sem, *])
    | refine Awp.block ?_
    | (apply Awp.cond; (case hc => (simp only [go_sem, *] <;> rfl)); all_goals (intro hg; (try simp only [Bool.not_true, Bool.not_false, reduceCtorEq] at hg)))
    | refine Awp.seq ?_
    | (apply sl_a; (case hc => rfl); (case he => (simp only [go_sem, *] <;> rfl)); (case hu => (simp only [updL_nil, updL_cons] <;> rfl)); (case hl => (simp only [List.map_cons, List.map_nil] <;> rfl)); (case hp => first | trivial | assumption | omega | (simp; done) | (simp; omega) | (simp [*]; done) | ((repeat' (refine And.intro ?_ ?_)) <;> first | trivial | assumption | omega | (simp; done) | (simp; omega) | (simp [*]; done))))
    | (apply sl_ga; (case hb => rfl); (case hv => (simp only [go_sem, *] <;> rfl)); (case he => (simp only [go_sem, *] <;> rfl)); (case hu => (simp only [updL_nil, updL_cons] <;> rfl)); (case hl => (simp only [List.map_cons, List.map_nil] <;> rfl)); (case hp => first | trivial | assumption | omega | (simp; done) | (simp; omega) | (simp [*]; done) | ((repeat' (refine And.intro ?_ ?_)) <;> first | trivial | assumption | omega | (simp; done) | (simp; omega) | (simp [*]; done))))
    | (refine sl_nil (And.intro (by first | exact drawOk_of (by decide +kernel) | (simp only [List.map_cons, List.map_nil]; exact drawOk_of (by decide +kernel)) | decide) ?_)))
        refine ⟨i + 1, hiN, hme, ?_⟩
        (apply Ghost.mk [] []; (case hdead => rfl); (case hinj => rfl); (case hV => (simp only [go_sem, *]) <;> (repeat' (first | skip; done))); (case hB => (simp only [go_sem, *]) <;> (repeat' (first | skip; done))))
    · have hlt' : ¬ (i : Int) < a.length := by omega
      repeat' (first
    | (apply Awp.sreg; (case hn => (simp only [List.length_cons, List.length_nil, Nat.reduceAdd] <;> rfl)))
    | (refine st_nil ?_)
    | (apply st_a; (case hc => rfl); (case he => (simp only [go_sem, *] <;> rfl)); (case hu => (simp only [updL_nil, updL_cons] <;> rfl)); (case hp => first | trivial | assumption | omega | (simp; done) | (simp; omega) | (simp [*]; done) | ((repeat' (refine And.intro ?_ ?_)) <;> first | trivial | assumption | omega | (simp; done) | (simp; omega) | (simp [*]; done))))
    | (refine Awp.ret ?_; try simp only [go_sem, *])
    | (refine Awp.exit ?_; try simp only [go_sem, *])
    | (apply Awp.cond; (case hc => (simp only [go_sem, *] <;> rfl)); all_goals (intro hg; (try simp only [Bool.not_true, Bool.not_false, reduceCtorEq] at hg); (try have hg' := hg); (try simp only [decide_eq_true_eq, decide_eq_false_iff_not, Bool.and_eq_true, Bool.or_eq_false_iff, bne_iff_ne, bne_eq_false_iff_eq, beq_iff_eq, beq_eq_false_iff_ne, Int.not_lt, Int.not_le, Int.ofNat_lt, Int.ofNat_le, Int.natCast_inj] at hg')))
    | refine Awp.seq ?_)
      all_goals repeat' (first | exact Lower.bool (by first | rfl | (simp only [true_and, Bool.true_and, Bool.false_and, Bool.and_true, Bool.and_false, Bool.true_or, Bool.false_or, reduceIte, Bool.false_eq_true, *]; done) | (simp only [true_and, reduceIte, Bool.false_eq_true, *] <;> rfl) | (simp [true_and]; done) | (simp_all [true_and]; done) | omega))
def farB (s : Sp) : Bool := decide (s.a < -1099511627776) || decide (1099511627776 < s.a) || decide (s.b < -1099511627776) || decide (1099511627776 < s.b)
def nearB (l : List Sp) : Bool := l.all fun s => !farB s
theorem near_ok (a : List Sp) (hl : a.length < 1000000) : Pure Try.prog 24 [.sl (sps a)] (.v (.bool (nearB a))) := by
  have bad : ∀ {i : Nat}, i < a.length → farB (a.getD i zeroSp) = true → nearB a = false := by
    intro i hi hp
    unfold nearB
    rw [Bool.eq_false_iff]
    intro h
    have := List.all_eq_true.1 h (a.getD i zeroSp) (by rw [List.getD_eq_getElem?_getD, List.getElem?_eq_getElem hi]; exact List.getElem_mem hi)
    rw [hp] at this; cases this
  have fin : (∀ j, j < a.length → farB (a.getD j zeroSp) = false) → nearB a = true := by
    intro hj
    refine List.all_eq_true.2 fun x hx => ?_
    obtain ⟨i, hi, rfl⟩ := List.getElem_of_mem hx
    have := hj i hi
    rw [List.getD_eq_getElem?_getD, List.getElem?_eq_getElem hi] at this
    simp only [Option.getD_some] at this
    rw [this]; rfl
  have en1 : Int.negSucc 1099511627775 = -1099511627776 := rfl
  refine fn_pure Try.F24 (Nat.le_of_ble_eq_true rfl) ?_; unfold Try.ac24
  repeat' (first
    | (apply Awp.sreg; (case hn => (simp only [List.length_cons, List.length_nil, Nat.reduceAdd] <;> rfl)))
    | (refine st_nil ?_)
    | (apply st_a; (case hc => rfl); (case he => (simp only [go_sem, *] <;> rfl)); (case hu => (simp only [updL_nil, updL_cons] <;> rfl)); (case hp => first | trivial | assumption | omega | (simp; done) | (simp; omega) | (simp [*]; done) | ((repeat' (refine And.intro ?_ ?_)) <;> first | trivial | assumption | omega | (simp; done) | (simp; omega) | (simp [*]; done))))
    | refine Awp.block ?_
    | refine Awp.seq ?_)
  refine Awp.loop (fun i : Nat => i ≤ a.length ∧ ∀ j, j < i → farB (a.getD j zeroSp) = false) 60 (fun i => mkS [(0, .sl (sps a)), (3, .v (.int .i64 i))] []) (fun i => a.length - i) 0 (by simp) ?_ ?_
  · (apply Ghost.mk [] []; (case hdead => rfl); (case hinj => rfl); (case hV => (simp only [go_sem, *]) <;> (repeat' (first | exact View.int (by first | rfl | omega | (simp; done) | (rw [wrap_i64] <;> (try simp only [Int.natCast_add]) <;> omega) | (simp [*]; done))))); (case hB => (simp only [go_sem, *]) <;> (repeat' (first | skip; done))))
  · intro i ⟨hi, hj⟩
    by_cases hlt : i < a.length
    · have hlt' : (i : Int) < a.length := by omega
      have hat := sps_at a i hlt
      have hz : ((a.getD i zeroSp).cells).length = 2 := rfl
      cases hB : farB (a.getD i zeroSp)
      · have hnx := ltSucc hj hB
        have hB' := hB
        unfold farB at hB'
        clear hj hB bad fin
        generalize a.getD i zeroSp = x at *
        repeat' (first
    | (apply Awp.sreg; (case hn => (simp only [List.length_cons, List.length_nil, Nat.reduceAdd] <;> rfl)))
    | (refine st_nil ?_)
    | (apply st_a; (case hc => rfl); (case he => (simp only [go_sem, *] <;> rfl)); (case hu => (simp only [updL_nil, updL_cons] <;> rfl)); (case hp => first | trivial | assumption | omega | (simp; done) | (simp; omega) | (simp [*]; done) | ((repeat' (refine And.intro ?_ ?_)) <;> first | trivial | assumption | omega | (simp; done) | (simp; omega) | (simp [*]; done))))
    | (apply st_m; (case hc => rfl); (case hg => (simp only [go_sem, *] <;> rfl)); (case he => (intro hQz; (try simp only [wantB_t, wantB_f, Bool.and_eq_true, Bool.not_eq_true', Bool.not_true, Bool.not_false, and_true, true_and] at hQz); simp only [go_sem, *] <;> rfl)); (case hp => (intro hQz; (try simp only [wantB_t, wantB_f, Bool.and_eq_true, Bool.not_eq_true', Bool.or_eq_false_iff, decide_eq_true_eq, decide_eq_false_iff_not, beq_iff_eq, beq_eq_false_iff_ne, bne_iff_ne, bne_eq_false_iff_eq, Int.not_lt, Int.not_le, Int.ofNat_lt, Int.ofNat_le] at hQz); first | trivial | assumption | omega | (simp; done) | (simp; omega) | (simp [*]; done) | ((repeat' (refine And.intro ?_ ?_)) <;> first | trivial | assumption | omega | (simp; done) | (simp; omega) | (simp [*]; done)))))
    | (apply Awp.reg; (case hn => (simp only [List.length_cons, List.length_nil, Nat.reduceAdd] <;> rfl)))
    | (refine Awp.skip ?_; try simp only [go_sem, *])
    | refine Awp.block ?_
    | (apply Awp.cond; (case hc => (simp only [go_sem, *] <;> rfl)); all_goals (intro hg; (try simp only [Bool.not_true, Bool.not_false, reduceCtorEq] at hg)))
    | refine Awp.seq ?_)
        refine ⟨i + 1, ⟨by omega, hnx⟩, by omega, ?_⟩
        (apply Ghost.mk [] []; (case hdead => rfl); (case hinj => rfl); (case hV => (simp only [go_sem, *]) <;> (repeat' (first | exact View.int (by first | rfl | omega | (simp; done) | (rw [wrap_i64] <;> (try simp only [Int.natCast_add]) <;> omega) | (simp [*]; done))))); (case hB => (simp only [go_sem, *]) <;> (repeat' (first | skip; done))))
      · have hr := bad hlt hB
        have hB' := hB
        unfold farB at hB'
        clear hj hB bad fin
        generalize a.getD i zeroSp = x at *
        rw [hr]
        repeat' (first
    | (apply Awp.sreg; (case hn => (simp only [List.length_cons, List.length_nil, Nat.reduceAdd] <;> rfl)))
    | (refine st_nil ?_)
    | (apply st_a; (case hc => rfl); (case he => (simp only [go_sem, *] <;> rfl)); (case hu => (simp only [updL_nil, updL_cons] <;> rfl)); (case hp => first | trivial | assumption | omega | (simp; done) | (simp; omega) | (simp [*]; done) | ((repeat' (refine And.intro ?_ ?_)) <;> first | trivial | assumption | omega | (simp; done) | (simp; omega) | (simp [*]; done))))
    | (apply st_m; (case hc => rfl); (case hg => (simp only [go_sem, *] <;> rfl)); (case he => (intro hQz; (try simp only [wantB_t, wantB_f, Bool.and_eq_true, Bool.not_eq_true', Bool.not_true, Bool.not_false, and_true, true_and] at hQz); simp only [go_sem, *] <;> rfl)); (case hp => (intro hQz; (try simp only [wantB_t, wantB_f, Bool.and_eq_true, Bool.not_eq_true', Bool.or_eq_false_iff, decide_eq_true_eq, decide_eq_false_iff_not, beq_iff_eq, beq_eq_false_iff_ne, bne_iff_ne, bne_eq_false_iff_eq, Int.not_lt, Int.not_le, Int.ofNat_lt, Int.ofNat_le] at hQz); first | trivial | assumption | omega | (simp; done) | (simp; omega) | (simp [*]; done) | ((repeat' (refine And.intro ?_ ?_)) <;> first | trivial | assumption | omega | (simp; done) | (simp; omega) | (simp [*]; done)))))
    | (refine Awp.ret ?_; try simp only [go_sem, *])
    | (refine Awp.skip ?_; try simp only [go_sem, *])
    | refine Awp.block ?_
    | (apply Awp.cond; (case hc => (simp only [go_sem, *] <;> rfl)); all_goals (intro hg; (try simp only [Bool.not_true, Bool.not_false, reduceCtorEq] at hg)))
    | refine Awp.seq ?_)
        all_goals repeat' (first | exact Lower.bool (by first | rfl | (simp only [true_and, Bool.true_and, Bool.false_and, Bool.and_true, Bool.and_false, Bool.true_or, Bool.false_or, reduceIte, Bool.false_eq_true, *]; done) | (simp only [true_and, reduceIte, Bool.false_eq_true, *] <;> rfl) | (simp [true_and]; done) | (simp_all [true_and]; done) | omega))
    · have hlt' : ¬ (i : Int) < a.length := by omega
      have hr := fin fun j hjl => hj j (by omega)
      clear hj bad fin
      rw [hr]
      repeat' (first
    | (apply Awp.sreg; (case hn => (simp only [List.length_cons, List.length_nil, Nat.reduceAdd] <;> rfl)))
    | (refine st_nil ?_)
    | (apply st_a; (case hc => rfl); (case he => (simp only [go_sem, *] <;> rfl)); (case hu => (simp only [updL_nil, updL_cons] <;> rfl)); (case hp => first | trivial | assumption | omega | (simp; done) | (simp; omega) | (simp [*]; done) | ((repeat' (refine And.intro ?_ ?_)) <;> first | trivial | assumption | omega | (simp; done) | (simp; omega) | (simp [*]; done))))
    | (refine Awp.ret ?_; try simp only [go_sem, *])
    | (refine Awp.exit ?_; try simp only [go_sem, *])
    | (apply Awp.cond; (case hc => (simp only [go_sem, *] <;> rfl)); all_goals (intro hg; (try simp only [Bool.not_true, Bool.not_false, reduceCtorEq] at hg); (try have hg' := hg); (try simp only [decide_eq_true_eq, decide_eq_false_iff_not, Bool.and_eq_true, Bool.or_eq_false_iff, bne_iff_ne, bne_eq_false_iff_eq, beq_iff_eq, beq_eq_false_iff_ne, Int.not_lt, Int.not_le, Int.ofNat_lt, Int.ofNat_le, Int.natCast_inj] at hg')))
    | refine Awp.seq ?_)
      all_goals repeat' (first | exact Lower.bool (by first | rfl | (simp only [true_and, Bool.true_and, Bool.false_and, Bool.and_true, Bool.and_false, Bool.true_or, Bool.false_or, reduceIte, Bool.false_eq_true, *]; done) | (simp only [true_and, reduceIte, Bool.false_eq_true, *] <;> rfl) | (simp [true_and]; done) | (simp_all [true_and]; done) | omega))
theorem dist_ok (a b : Int) : Pure Try.prog 38 [.v (.int .i64 a), .v (.int .i64 b)] (.v (.int .u64 (IntKind.u64.wrap (IntKind.u64.wrap b - IntKind.u64.wrap a)))) := by
  refine fn_pure Try.F38 (Nat.le_of_ble_eq_true rfl) ?_; unfold Try.ac38
  repeat' (first
    | (apply Awp.sreg; (case hn => (simp only [List.length_cons, List.length_nil, Nat.reduceAdd] <;> rfl)))
    | (refine st_nil ?_)
    | (apply st_a; (case hc => rfl); (case he => (simp only [go_sem, *] <;> rfl)); (case hu => (simp only [updL_nil, updL_cons] <;> rfl)); (case hp => first | trivial | assumption | omega | (simp; done) | (simp; omega) | (simp [*]; done) | ((repeat' (refine And.intro ?_ ?_)) <;> first | trivial | assumption | omega | (simp; done) | (simp; omega) | (simp [*]; done))))
    | (refine Awp.ret ?_; try simp only [go_sem, *]))
  all_goals repeat' (first | exact Lower.int (by first | rfl | (simp only [true_and, Bool.true_and, Bool.false_and, Bool.and_true, Bool.and_false, Bool.true_or, Bool.false_or, reduceIte, Bool.false_eq_true, *]; done) | (simp only [true_and, reduceIte, Bool.false_eq_true, *] <;> rfl) | (simp [true_and]; done) | (simp_all [true_and]; done) | omega))
end Go.Proofs
end
section
set_option linter.unusedVariables false
set_option linter.unusedSimpArgs false
namespace Go.Proofs
open Go Go.Ab
set_option maxHeartbeats 4000000
set_option maxRecDepth 100000
set_option linter.unusedSimpArgs false
set_option linter.unusedVariables false
attribute [local irreducible] Awp aops aopsL Go.Ab.Pure PureOwn
/-- A fact that simp leaves alone. -/
def Kept (p : Prop) : Prop := p
theorem Kept.out {p : Prop} (h : Kept p) : p := h
theorem ins_at (s : Sp) : ∀ (l : List Sp) (k : Nat), k ≤ l.length → (∀ j, j < k → (l.getD j zeroSp).a < s.a) → (k < l.length → ¬ (l.getD k zeroSp).a < s.a) → insS s l = l.take k ++ s :: l.drop k
  | [], k, hk, _, _ => by simp [insS]
  | t :: l, 0, hk, _, h2 => by
    have := h2 (by simp)
    simp only [List.getD_cons_zero] at this
    unfold insS
    rw [if_neg this]
    rfl
  | t :: l, k + 1, hk, h1, h2 => by
    have h0 := h1 0 (by omega)
    simp only [List.getD_cons_zero] at h0
    unfold insS
    rw [if_pos h0, ins_at s l k (by simpa using hk) (fun j hj => by have := h1 (j + 1) (by omega); simpa using this) (fun hlt => by have := h2 (by simpa using hlt); simpa using this)]
    simp
def stepI (acc : List Sp) (s : Sp) : List Sp := if fullB s = true then insS s acc else acc
theorem stepI_spec : ∀ (l acc : List Sp), acc.Pairwise (fun x y => x.a ≤ y.a) → (l.foldl stepI acc).Pairwise (fun x y => x.a ≤ y.a) ∧ ∀ x, x ∈ l.foldl stepI acc ↔ x ∈ acc ∨ x ∈ l.filter fullB
  | [], acc, h => ⟨h, fun x => by simp⟩
  | s :: l, acc, h => by
    rw [List.foldl_cons]
    unfold stepI
    by_cases hf : fullB s = true
    · rw [if_pos hf]
      have k := stepI_spec l (insS s acc) (insS_asc s acc h)
      unfold stepI at k
      refine ⟨k.1, fun x => ?_⟩
      rw [k.2 x, mem_insS, List.filter_cons_of_pos hf, List.mem_cons]
      constructor
      · rintro ((h | h) | h)
        · exact .inr (.inl h)
        · exact .inl h
        · exact .inr (.inr h)
      · rintro (h | h | h)
        · exact .inl (.inr h)
        · exact .inl (.inl h)
        · exact .inr h
    · rw [if_neg hf]
      have k := stepI_spec l acc h
      unfold stepI at k
      refine ⟨k.1, fun x => ?_⟩
      rw [k.2 x, List.filter_cons_of_neg hf]
theorem stepI_len : ∀ (l acc : List Sp), (l.foldl stepI acc).length ≤ acc.length + l.length
  | [], acc => by simp
  | s :: l, acc => by
    have h1 := stepI_len l (stepI acc s)
    have h2 : (stepI acc s).length ≤ acc.length + 1 := by
      unfold stepI
      split
      · have : ∀ l : List Sp, (insS s l).length = l.length + 1 := by
          intro l
          induction l with
          | nil => rfl
          | cons t l ih => unfold insS; split <;> simp [ih]
        rw [this]; omega
      · omega
    rw [List.foldl_cons]
    simp only [List.length_cons]
    omega
def rinL (l : List Sp) : List Sp := l.foldl stepI []
theorem rin_canon (l : List Sp) : mergeS (rinL l) = canon l := by
  have h := stepI_spec l [] List.Pairwise.nil
  exact merge_canon h.1 fun s => by unfold rinL; rw [h.2 s]; simp
theorem rin_len (l : List Sp) : (rinL l).length ≤ l.length := by have := stepI_len l []; simpa [rinL] using this
theorem rin_step (l : List Sp) (i : Nat) (h : i < l.length) : rinL (l.take (i + 1)) = stepI (rinL (l.take i)) (l.getD i zeroSp) := by
  unfold rinL
  rw [take_snocP l i h, List.foldl_append]; rfl
theorem merge_stepL (l : List Sp) (i : Nat) (h : i < l.length) : mergeS (l.take (i + 1)) = stepM (mergeS (l.take i)) (l.getD i zeroSp) := by
  unfold mergeS
  rw [take_snocP l i h, List.foldl_append]; rfl
theorem merge_len (l : List Sp) : (mergeS l).length ≤ l.length := by have := foldM_len l []; simpa [mergeS] using this
def rnS (l : List Sp) (L : List Sp) (i : Nat) : AState := mkS [(0, .sl (sps l)), (3, .own 2), (4, .v (.int .i64 i))] [(2, .row (sps L) 2 29)]
def rkS (l : List Sp) (L : List Sp) (i k : Nat) : AState := mkS [(0, .sl (sps l)), (3, .own 2), (4, .v (.int .i64 i)), (5, .v (.int .i64 k))] [(2, .row (sps L) 2 29)]
def rjS (l : List Sp) (L : List Sp) (i k : Nat) (q : Nat × Sp) : AState := mkS [(0, .sl (sps l)), (3, .own 2), (4, .v (.int .i64 i)), (5, .v (.int .i64 k)), (6, .v (.int .i64 q.1))] [(2, .row (sps (L.take q.1 ++ q.2 :: L.drop q.1)) 2 29)]
def rmS (L M : List Sp) (i : Nat) : AState := mkS [(3, .own 2), (7, .own 3), (8, .v (.int .i64 i))] [(2, .row (sps L) 2 29), (3, .row (sps M) 2 29)]
theorem rnormal_ok (l : List Sp) (hl : l.length < 100000) : PureOwn Try.prog 15 [.sl (sps l)] (sps (canon l)) 2 29 := by
  refine fn_own Try.F15 (Nat.le_of_ble_eq_true rfl) ?_; unfold Try.ac15
  repeat' (first
    | (apply Awp.sreg; (case hn => (simp only [List.length_cons, List.length_nil, Nat.reduceAdd] <;> rfl)))
    | (refine st_nil ?_)
    | (apply st_a; (case hc => rfl); (case he => (simp only [go_sem, *] <;> rfl)); (case hu => (simp only [updL_nil, updL_cons] <;> rfl)); (case hp => first | trivial | assumption | omega | (simp; done) | (simp; omega) | (simp [*]; done) | ((repeat' (refine And.intro ?_ ?_)) <;> first | trivial | assumption | omega | (simp; done) | (simp; omega) | (simp [*]; done))))
    | refine Awp.block ?_
    | refine Awp.seq ?_)
  refine Awp.loop (fun i : Nat => i ≤ l.length) 200 (fun i => rnS l (rinL (l.take i)) i) (fun i => l.length - i) 0 (by omega) ?_ ?_
  · refine Ghost.trans (Ghost.name 3 2 29 rfl (by decide)) ?_
    have e1 : rinL (l.take 0) = [] := rfl
    rw [e1]
    unfold rnS
    (apply Ghost.mk [(2, 3)] []; (case hdead => rfl); (case hinj => rfl); (case hV => (simp only [go_sem, *]) <;> (repeat' (first | refine And.intro ?_ ?_ | exact View.int (by first | rfl | omega | (simp; done) | (rw [wrap_i64] <;> (try simp only [Int.natCast_add]) <;> omega) | (simp [*]; done)) | exact .own rfl (by decide)))); (case hB => (simp only [go_sem, *]) <;> (repeat' (first | exact ⟨_, rfl, .rowE (by first | rfl | omega | (simp; done) | (rw [wrap_i64] <;> (try simp only [Int.natCast_add]) <;> omega) | (simp [*]; done))⟩))))
  · intro i hi
    by_cases hlt : i < l.length
    · have hlt' : (i : Int) < l.length := by omega
      have hat := sps_at l i hlt
      have hz : ((l.getD i zeroSp).cells).length = 2 := rfl
      have hst := rin_step l i hlt
      have hLl : (rinL (l.take i)).length ≤ i := by have := rin_len (l.take i); simp at this; omega
      unfold stepI at hst
      generalize rinL (l.take i) = L at *
      cases hf : fullB (l.getD i zeroSp)
      · rw [hf] at hst
        simp only [Bool.false_eq_true, if_false] at hst
        have hB : decide ((l.getD i zeroSp).b ≤ (l.getD i zeroSp).a) = true := by
          unfold fullB at hf; exact decide_eq_true (by have := of_decide_eq_false hf; omega)
        generalize l.getD i zeroSp = s at *
        clear hf
        unfold rnS
        repeat' (first
    | (apply Awp.sreg; (case hn => (simp only [List.length_cons, List.length_nil, Nat.reduceAdd] <;> rfl)))
    | (apply Awp.sdraw; (case hn => (simp only [List.length_cons, List.length_nil, Nat.reduceAdd] <;> rfl)))
    | (refine st_nil ?_)
    | (apply st_a; (case hc => rfl); (case he => (simp only [go_sem, *] <;> rfl)); (case hu => (simp only [updL_nil, updL_cons] <;> rfl)); (case hp => first | trivial | assumption | omega | (simp; done) | (simp; omega) | (simp [*]; done) | ((repeat' (refine And.intro ?_ ?_)) <;> first | trivial | assumption | omega | (simp; done) | (simp; omega) | (simp [*]; done))))
    | (apply Awp.reg; (case hn => (simp only [List.length_cons, List.length_nil, Nat.reduceAdd] <;> rfl)))
    | (refine Awp.skip ?_; try simp only [go_sem, *])
    | (refine Awp.exit ?_; try simp only [go_sem, *])
    | refine Awp.block ?_
    | (apply Awp.cond; (case hc => (simp only [go_sem, *] <;> rfl)); all_goals (intro hg; (try simp only [Bool.not_true, Bool.not_false, reduceCtorEq] at hg)))
    | refine Awp.seq ?_
    | (apply sl_a; (case hc => rfl); (case he => (simp only [go_sem, *] <;> rfl)); (case hu => (simp only [updL_nil, updL_cons] <;> rfl)); (case hl => (simp only [List.map_cons, List.map_nil] <;> rfl)); (case hp => first | trivial | assumption | omega | (simp; done) | (simp; omega) | (simp [*]; done) | ((repeat' (refine And.intro ?_ ?_)) <;> first | trivial | assumption | omega | (simp; done) | (simp; omega) | (simp [*]; done))))
    | (refine sl_nil (And.intro (by first | exact drawOk_of (by decide +kernel) | (simp only [List.map_cons, List.map_nil]; exact drawOk_of (by decide +kernel)) | decide) ?_)))
        refine ⟨i + 1, by omega, by omega, ?_⟩
        rw [hst]
        (apply Ghost.mk [] []; (case hdead => rfl); (case hinj => rfl); (case hV => (simp only [go_sem, *]) <;> (repeat' (first | refine And.intro ?_ ?_ | exact View.int (by first | rfl | omega | (simp; done) | (rw [wrap_i64] <;> (try simp only [Int.natCast_add]) <;> omega) | (simp [*]; done)) | exact .own rfl (by decide)))); (case hB => (simp only [go_sem, *]) <;> (repeat' (first | exact ⟨_, rfl, .rowE (by first | rfl | omega | (simp; done) | (rw [wrap_i64] <;> (try simp only [Int.natCast_add]) <;> omega) | (simp [*]; done))⟩))))
      · rw [hf] at hst
        simp only [if_true] at hst
        have hB : decide ((l.getD i zeroSp).b ≤ (l.getD i zeroSp).a) = false := by
          unfold fullB at hf; exact decide_eq_false (by have := of_decide_eq_true hf; omega)
        obtain ⟨s, hs⟩ : ∃ s, l.getD i zeroSp = s := ⟨_, rfl⟩
        rw [hs] at hat hz hst hB
        clear hf hs
        unfold rnS
        repeat' (first
    | (apply Awp.sreg; (case hn => (simp only [List.length_cons, List.length_nil, Nat.reduceAdd] <;> rfl)))
    | (apply Awp.sdraw; (case hn => (simp only [List.length_cons, List.length_nil, Nat.reduceAdd] <;> rfl)))
    | (refine st_nil ?_)
    | (apply st_a; (case hc => rfl); (case he => (simp only [go_sem, *] <;> rfl)); (case hu => (simp only [updL_nil, updL_cons] <;> rfl)); (case hp => first | trivial | assumption | omega | (simp; done) | (simp; omega) | (simp [*]; done) | ((repeat' (refine And.intro ?_ ?_)) <;> first | trivial | assumption | omega | (simp; done) | (simp; omega) | (simp [*]; done))))
    | (refine Awp.skip ?_; try simp only [go_sem, *])
    | refine Awp.block ?_
    | (apply Awp.cond; (case hc => (simp only [go_sem, *] <;> rfl)); all_goals (intro hg; (try simp only [Bool.not_true, Bool.not_false, reduceCtorEq] at hg)))
    | refine Awp.seq ?_
    | (apply sl_a; (case hc => rfl); (case he => (simp only [go_sem, *] <;> rfl)); (case hu => (simp only [updL_nil, updL_cons] <;> rfl)); (case hl => (simp only [List.map_cons, List.map_nil] <;> rfl)); (case hp => first | trivial | assumption | omega | (simp; done) | (simp; omega) | (simp [*]; done) | ((repeat' (refine And.intro ?_ ?_)) <;> first | trivial | assumption | omega | (simp; done) | (simp; omega) | (simp [*]; done))))
    | (refine sl_nil (And.intro (by first | exact drawOk_of (by decide +kernel) | (simp only [List.map_cons, List.map_nil]; exact drawOk_of (by decide +kernel)) | decide) ?_)))
        clear hB
        refine Awp.loop (fun k : Nat => k ≤ L.length ∧ ∀ j, j < k → (L.getD j zeroSp).a < s.a) 300 (fun k => rkS l L i k) (fun k => L.length - k) 0 ⟨by omega, fun j hj => by omega⟩ ?_ ?_
        · unfold rkS
          (apply Ghost.mk [] []; (case hdead => rfl); (case hinj => rfl); (case hV => (simp only [go_sem, *]) <;> (repeat' (first | refine And.intro ?_ ?_ | exact View.int (by first | rfl | omega | (simp; done) | (rw [wrap_i64] <;> (try simp only [Int.natCast_add]) <;> omega) | (simp [*]; done)) | exact .own rfl (by decide)))); (case hB => (simp only [go_sem, *]) <;> (repeat' (first | exact ⟨_, rfl, .rowE (by first | rfl | omega | (simp; done) | (rw [wrap_i64] <;> (try simp only [Int.natCast_add]) <;> omega) | (simp [*]; done))⟩))))
        · intro k ⟨hk, hjk⟩
          have hLn := sps_len L
          by_cases hkl : k < L.length ∧ (L.getD k zeroSp).a < s.a
          · obtain ⟨hkl, hka⟩ := hkl
            have hkl' : (k : Int) < L.length := by omega
            have hka' : decide ((L.getD k zeroSp).a < s.a) = true := decide_eq_true hka
            have hatk := sps_at L k hkl
            have hzk : ((L.getD k zeroSp).cells).length = 2 := rfl
            have hnx := ltSucc hjk hka
            generalize L.getD k zeroSp = t at *
            clear hka hjk
            unfold rkS
            repeat' (first
    | (apply Awp.sdraw; (case hn => (simp only [List.length_cons, List.length_nil, Nat.reduceAdd] <;> rfl)))
    | (refine st_nil ?_)
    | (apply st_a; (case hc => rfl); (case he => (simp only [go_sem, *] <;> rfl)); (case hu => (simp only [updL_nil, updL_cons] <;> rfl)); (case hp => first | trivial | assumption | omega | (simp; done) | (simp; omega) | (simp [*]; done) | ((repeat' (refine And.intro ?_ ?_)) <;> first | trivial | assumption | omega | (simp; done) | (simp; omega) | (simp [*]; done))))
    | (apply Awp.reg; (case hn => (simp only [List.length_cons, List.length_nil, Nat.reduceAdd] <;> rfl)))
    | (refine Awp.skip ?_; try simp only [go_sem, *])
    | refine Awp.block ?_
    | (apply Awp.cond; (case hc => (simp only [go_sem, *] <;> rfl)); all_goals (intro hg; (try simp only [Bool.not_true, Bool.not_false, reduceCtorEq] at hg)))
    | refine Awp.seq ?_
    | (apply sl_a; (case hc => rfl); (case he => (simp only [go_sem, *] <;> rfl)); (case hu => (simp only [updL_nil, updL_cons] <;> rfl)); (case hl => (simp only [List.map_cons, List.map_nil] <;> rfl)); (case hp => first | trivial | assumption | omega | (simp; done) | (simp; omega) | (simp [*]; done) | ((repeat' (refine And.intro ?_ ?_)) <;> first | trivial | assumption | omega | (simp; done) | (simp; omega) | (simp [*]; done))))
    | (apply sl_ga; (case hb => rfl); (case hv => (simp only [go_sem, *] <;> rfl)); (case he => (simp only [go_sem, *] <;> rfl)); (case hu => (simp only [updL_nil, updL_cons] <;> rfl)); (case hl => (simp only [List.map_cons, List.map_nil] <;> rfl)); (case hp => first | trivial | assumption | omega | (simp; done) | (simp; omega) | (simp [*]; done) | ((repeat' (refine And.intro ?_ ?_)) <;> first | trivial | assumption | omega | (simp; done) | (simp; omega) | (simp [*]; done))))
    | (refine sl_nil (And.intro (by first | exact drawOk_of (by decide +kernel) | (simp only [List.map_cons, List.map_nil]; exact drawOk_of (by decide +kernel)) | decide) ?_)))
            refine ⟨k + 1, ⟨by omega, hnx⟩, by omega, ?_⟩
            (apply Ghost.mk [] []; (case hdead => rfl); (case hinj => rfl); (case hV => (simp only [go_sem, *]) <;> (repeat' (first | refine And.intro ?_ ?_ | exact View.int (by first | rfl | omega | (simp; done) | (rw [wrap_i64] <;> (try simp only [Int.natCast_add]) <;> omega) | (simp [*]; done)) | exact .own rfl (by decide)))); (case hB => (simp only [go_sem, *]) <;> (repeat' (first | exact ⟨_, rfl, .rowE (by first | rfl | omega | (simp; done) | (rw [wrap_i64] <;> (try simp only [Int.natCast_add]) <;> omega) | (simp [*]; done))⟩))))
          · have hins := ins_at s L k hk hjk (fun h => fun h2 => hkl ⟨h, h2⟩)
            have hres : Kept (rinL (l.take (i + 1)) = L.take k ++ s :: L.drop k) := hst.trans hins
            clear hjk hst hins
            have hex : (k < L.length ∧ decide ((L.getD k zeroSp).a < s.a) = false) ∨ k = L.length := by
              by_cases h : k < L.length
              · exact .inl ⟨h, decide_eq_false fun h2 => hkl ⟨h, h2⟩⟩
              · exact .inr (by omega)
            clear hkl
            have esn := sps_snoc L s
            have eon := sps_one L
            have hw1 : IntKind.i64.wrap (((L ++ [s]).length : Int) - 1) = ((L.length : Nat) : Int) := by
              rw [wrap_i64 (by simp only [List.length_append, List.length_cons, List.length_nil]; omega) (by simp only [List.length_append, List.length_cons, List.length_nil]; omega)]; simp
            rcases hex with ⟨hkl, hka⟩ | hke
            have hkl' : (k : Int) < L.length := by omega
            have hatk := sps_at L k hkl
            have hzk : ((L.getD k zeroSp).cells).length = 2 := rfl
            generalize L.getD k zeroSp = t at *
            unfold rkS
            rotate_left
            have hkl' : ¬ (k : Int) < L.length := by omega
            clear hke
            unfold rkS
            repeat' (first
    | (apply Awp.sreg; (case hn => (simp only [List.length_cons, List.length_nil, Nat.reduceAdd] <;> rfl)))
    | (apply Awp.sdraw; (case hn => (simp only [List.length_cons, List.length_nil, Nat.reduceAdd] <;> rfl)))
    | (refine st_nil ?_)
    | (apply st_a; (case hc => rfl); (case he => (simp only [go_sem, *] <;> rfl)); (case hu => (simp only [updL_nil, updL_cons] <;> rfl)); (case hp => first | trivial | assumption | omega | (simp; done) | (simp; omega) | (simp [*]; done) | ((repeat' (refine And.intro ?_ ?_)) <;> first | trivial | assumption | omega | (simp; done) | (simp; omega) | (simp [*]; done))))
    | (refine Awp.exit ?_; try simp only [go_sem, *])
    | refine Awp.block ?_
    | (apply Awp.cond; (case hc => (simp only [go_sem, *] <;> rfl)); all_goals (intro hg; (try simp only [Bool.not_true, Bool.not_false, reduceCtorEq] at hg)))
    | refine Awp.seq ?_
    | (apply sl_a; (case hc => rfl); (case he => (simp only [go_sem, *] <;> rfl)); (case hu => (simp only [updL_nil, updL_cons] <;> rfl)); (case hl => (simp only [List.map_cons, List.map_nil] <;> rfl)); (case hp => first | trivial | assumption | omega | (simp; done) | (simp; omega) | (simp [*]; done) | ((repeat' (refine And.intro ?_ ?_)) <;> first | trivial | assumption | omega | (simp; done) | (simp; omega) | (simp [*]; done))))
    | (apply sl_gn; (case hv => (simp only [go_sem, *] <;> rfl)); (case hbw => rfl))
    | (apply sl_ga; (case hb => rfl); (case hv => (simp only [go_sem, *] <;> rfl)); (case he => (simp only [go_sem, *] <;> rfl)); (case hu => (simp only [updL_nil, updL_cons] <;> rfl)); (case hl => (simp only [List.map_cons, List.map_nil] <;> rfl)); (case hp => first | trivial | assumption | omega | (simp; done) | (simp; omega) | (simp [*]; done) | ((repeat' (refine And.intro ?_ ?_)) <;> first | trivial | assumption | omega | (simp; done) | (simp; omega) | (simp [*]; done))))
    | (refine sl_nil (And.intro (by first | exact drawOk_of (by decide +kernel) | (simp only [List.map_cons, List.map_nil]; exact drawOk_of (by decide +kernel)) | decide) ?_)))
            all_goals
              refine Awp.loop (fun q : Nat × Sp => q.1 ≤ L.length ∧ k ≤ q.1) 400 (rjS l L i k) (fun q => q.1) (L.length, s) ⟨by dsimp only; omega, by dsimp only; omega⟩ ?_ ?_
              · unfold rjS
                dsimp only
                (apply Ghost.mk [(2, 323)] []; (case hdead => rfl); (case hinj => rfl); (case hV => (simp only [go_sem, *]) <;> (repeat' (first | exact .own rfl (by decide)))); (case hB => (simp only [go_sem, *]) <;> (repeat' (first | exact ⟨_, rfl, .rowE (by first | rfl | omega | (simp; done) | (rw [wrap_i64] <;> (try simp only [Int.natCast_add]) <;> omega) | (simp [*]; done))⟩))))
              · rintro ⟨j, w⟩ ⟨hj, hkj⟩
                dsimp only at hj hkj
                have hRl : (L.take j ++ w :: L.drop j).length = L.length + 1 := by simp; omega
                by_cases hjk : k < j
                · obtain ⟨m, hm⟩ : ∃ m, j = m + 1 := ⟨j - 1, by omega⟩
                  have hmL : m < L.length := by omega
                  have hw2 : IntKind.i64.wrap ((j : Int) - 1) = (m : Int) := by rw [wrap_i64 (by omega) (by omega)]; omega
                  have hjk' : decide ((k : Int) < j) = true := decide_eq_true (by omega)
                  have htk : L.take j = L.take m ++ [L.getD m zeroSp] := by rw [hm]; exact take_snocP L m hmL
                  have hdk : L.drop m = L.getD m zeroSp :: L.drop j := by rw [hm]; exact drop_consP L m hmL
                  have hatm : (sps (L.take j ++ w :: L.drop j)).getD m [] = (L.getD m zeroSp).cells := by
                    rw [sps_at _ _ (by omega), htk]
                    congr 1
                    simp only [List.getD_eq_getElem?_getD, List.append_assoc]
                    rw [List.getElem?_append_right (by simp; omega)]
                    simp [show m - min m L.length = 0 by omega]
                  have hcl : ((sps (L.take j ++ w :: L.drop j)).getD j []).length = 2 := by rw [sps_at _ _ (by omega)]; rfl
                  have hset : (sps (L.take j ++ w :: L.drop j)).set j (splice ((sps (L.take j ++ w :: L.drop j)).getD j []) 0 [.v (.int .i64 (L.getD m zeroSp).a), .v (.int .i64 (L.getD m zeroSp).b)]) = sps (L.take m ++ L.getD m zeroSp :: L.drop m) := by
                    rw [sps_store (L := L.take j ++ w :: L.drop j) (i := j) (x := L.getD m zeroSp) (by omega), hdk]
                    congr 1
                    rw [List.set_append]
                    rw [if_neg (by simp; omega)]
                    rw [show j - (L.take j).length = 0 by simp; omega]
                    rw [List.set_cons_zero, htk]
                    simp
                  have hRl2 : (sps (L.take j ++ w :: L.drop j)).length = L.length + 1 := by rw [sps_len, hRl]
                  have hjl : (j : Int) < ((L.length + 1 : Nat) : Int) := by omega
                  have hml : (m : Int) < ((L.length + 1 : Nat) : Int) := by omega
                  have hmm : m < j := by omega
                  have hkm : k ≤ m := by omega
                  have hmL2 : m ≤ L.length := by omega
                  unfold rjS
                  dsimp only
                  generalize hE : sps (L.take j ++ w :: L.drop j) = E at *
                  generalize L.getD m zeroSp = x at *
                  clear htk hdk hE hRl hm hjk
                  repeat' (first
    | (apply Awp.sreg; (case hn => (simp only [List.length_cons, List.length_nil, Nat.reduceAdd] <;> rfl)))
    | (refine st_nil ?_)
    | (apply st_a; (case hc => rfl); (case he => (simp only [go_sem, *] <;> rfl)); (case hu => (simp only [updL_nil, updL_cons] <;> rfl)); (case hp => first | trivial | assumption | omega | (simp; done) | (simp; omega) | (simp [*]; done) | ((repeat' (refine And.intro ?_ ?_)) <;> first | trivial | assumption | omega | (simp; done) | (simp; omega) | (simp [*]; done))))
    | (apply Awp.reg; (case hn => (simp only [List.length_cons, List.length_nil, Nat.reduceAdd] <;> rfl)))
    | (refine Awp.skip ?_; try simp only [go_sem, *])
    | refine Awp.block ?_
    | (apply Awp.cond; (case hc => (simp only [go_sem, *] <;> rfl)); all_goals (intro hg; (try simp only [Bool.not_true, Bool.not_false, reduceCtorEq] at hg)))
    | refine Awp.seq ?_)
                  refine ⟨(m, x), ⟨hmL2, hkm⟩, hmm, ?_⟩
                  dsimp only
                  (apply Ghost.mk [] []; (case hdead => rfl); (case hinj => rfl); (case hV => (simp only [go_sem, *]) <;> (repeat' (first | exact .own rfl (by decide)))); (case hB => (simp only [go_sem, *]) <;> (repeat' (first | exact ⟨_, rfl, .rowE (by first | rfl | exact hset | omega | (simp; done) | (rw [wrap_i64] <;> (try simp only [Int.natCast_add]) <;> omega) | (simp [*]; done))⟩))))
                · have hjk' : decide ((k : Int) < j) = false := decide_eq_false (by omega)
                  have hje : j = k := by omega
                  subst hje
                  have hcl : ((sps (L.take j ++ w :: L.drop j)).getD j []).length = 2 := by rw [sps_at _ _ (by omega)]; rfl
                  have hset : (sps (L.take j ++ w :: L.drop j)).set j (splice ((sps (L.take j ++ w :: L.drop j)).getD j []) 0 [.v (.int .i64 s.a), .v (.int .i64 s.b)]) = sps (L.take j ++ s :: L.drop j) := by
                    rw [sps_store (L := L.take j ++ w :: L.drop j) (i := j) (x := s) (by omega)]
                    congr 1
                    rw [List.set_append]
                    rw [if_neg (by simp; omega)]
                    rw [show j - (L.take j).length = 0 by simp; omega]
                    rfl
                  have hRl2 : (sps (L.take j ++ w :: L.drop j)).length = L.length + 1 := by rw [sps_len, hRl]
                  have hjl : (j : Int) < ((L.length + 1 : Nat) : Int) := by omega
                  unfold rjS
                  dsimp only
                  generalize hE : sps (L.take j ++ w :: L.drop j) = E at *
                  clear hE hRl hjk
                  repeat' (first
    | (apply Awp.sreg; (case hn => (simp only [List.length_cons, List.length_nil, Nat.reduceAdd] <;> rfl)))
    | (refine st_nil ?_)
    | (apply st_a; (case hc => rfl); (case he => (simp only [go_sem, *] <;> rfl)); (case hu => (simp only [updL_nil, updL_cons] <;> rfl)); (case hp => first | trivial | assumption | omega | (simp; done) | (simp; omega) | (simp [*]; done) | ((repeat' (refine And.intro ?_ ?_)) <;> first | trivial | assumption | omega | (simp; done) | (simp; omega) | (simp [*]; done))))
    | (apply Awp.reg; (case hn => (simp only [List.length_cons, List.length_nil, Nat.reduceAdd] <;> rfl)))
    | (refine Awp.exit ?_; try simp only [go_sem, *])
    | (apply Awp.cond; (case hc => (simp only [go_sem, *] <;> rfl)); all_goals (intro hg; (try simp only [Bool.not_true, Bool.not_false, reduceCtorEq] at hg)))
    | refine Awp.seq ?_)
                  refine ⟨i + 1, by omega, by omega, ?_⟩
                  rw [hres.out]
                  (apply Ghost.mk [] []; (case hdead => rfl); (case hinj => rfl); (case hV => (simp only [go_sem, *]) <;> (repeat' (first | refine And.intro ?_ ?_ | exact View.int (by first | rfl | exact hset | omega | (simp; done) | (rw [wrap_i64] <;> (try simp only [Int.natCast_add]) <;> omega) | (simp [*]; done)) | exact .own rfl (by decide)))); (case hB => (simp only [go_sem, *]) <;> (repeat' (first | exact ⟨_, rfl, .rowE (by first | rfl | exact hset | omega | (simp; done) | (rw [wrap_i64] <;> (try simp only [Int.natCast_add]) <;> omega) | (simp [*]; done))⟩))))
    · have hlt' : ¬ (i : Int) < l.length := by omega
      have e1 : l.take i = l := List.take_of_length_le (by omega)
      rw [e1]
      have hrl := rin_len l
      rw [← rin_canon l]
      generalize rinL l = L at *
      clear e1 hlt hi
      unfold rnS
      repeat' (first
    | (apply Awp.sreg; (case hn => (simp only [List.length_cons, List.length_nil, Nat.reduceAdd] <;> rfl)))
    | (refine st_nil ?_)
    | (apply st_a; (case hc => rfl); (case he => (simp only [go_sem, *] <;> rfl)); (case hu => (simp only [updL_nil, updL_cons] <;> rfl)); (case hp => first | trivial | assumption | omega | (simp; done) | (simp; omega) | (simp [*]; done) | ((repeat' (refine And.intro ?_ ?_)) <;> first | trivial | assumption | omega | (simp; done) | (simp; omega) | (simp [*]; done))))
    | (refine Awp.exit ?_; try simp only [go_sem, *])
    | refine Awp.block ?_
    | (apply Awp.cond; (case hc => (simp only [go_sem, *] <;> rfl)); all_goals (intro hg; (try simp only [Bool.not_true, Bool.not_false, reduceCtorEq] at hg)))
    | refine Awp.seq ?_)
      refine Awp.loop (fun i : Nat => i ≤ L.length) 200 (fun i => rmS L (mergeS (L.take i)) i) (fun i => L.length - i) 0 (by omega) ?_ ?_
      · refine Ghost.trans (Ghost.name 7 2 29 rfl (by decide)) ?_
        have e1 : mergeS (L.take 0) = [] := rfl
        rw [e1]
        unfold rmS
        (apply Ghost.mk [(3, 206)] []; (case hdead => rfl); (case hinj => rfl); (case hV => (simp only [go_sem, *]) <;> (repeat' (first | refine And.intro ?_ ?_ | exact View.int (by first | rfl | omega | (simp; done) | (rw [wrap_i64] <;> (try simp only [Int.natCast_add]) <;> omega) | (simp [*]; done)) | exact .own rfl (by decide)))); (case hB => (simp only [go_sem, *]) <;> (repeat' (first | refine And.intro ?_ ?_ | exact ⟨_, rfl, .rowE (by first | rfl | omega | (simp; done) | (rw [wrap_i64] <;> (try simp only [Int.natCast_add]) <;> omega) | (simp [*]; done))⟩))))
      · intro i hi
        by_cases hlt : i < L.length
        · have hlt' : (i : Int) < L.length := by omega
          have hat := sps_at L i hlt
          have hz : ((L.getD i zeroSp).cells).length = 2 := rfl
          have hst := merge_stepL L i hlt
          have hMl : (mergeS (L.take i)).length ≤ i := by have := merge_len (L.take i); simp at this; omega
          have hLn := sps_len L
          generalize mergeS (L.take i) = M at *
          generalize L.getD i zeroSp = s at *
          have esn := sps_snoc M s
          have eon := sps_one M
          have hMn := sps_len M
          have hw1 : IntKind.i64.wrap ((M.length : Int) - 1) = (M.length : Int) - 1 := wrap_i64 (by omega) (by omega)
          by_cases hM : M.length = 0
          · have hn : decide ((0 : Int) ≤ (M.length : Int) - 1) = false := decide_eq_false (by omega)
            unfold stepM at hst
            rw [if_neg (by omega)] at hst
            unfold rmS
            repeat' (first
    | (apply Awp.sreg; (case hn => (simp only [List.length_cons, List.length_nil, Nat.reduceAdd] <;> rfl)))
    | (apply Awp.sdraw; (case hn => (simp only [List.length_cons, List.length_nil, Nat.reduceAdd] <;> rfl)))
    | (refine st_nil ?_)
    | (apply st_a; (case hc => rfl); (case he => (simp only [go_sem, *] <;> rfl)); (case hu => (simp only [updL_nil, updL_cons] <;> rfl)); (case hp => first | trivial | assumption | omega | (simp; done) | (simp; omega) | (simp [*]; done) | ((repeat' (refine And.intro ?_ ?_)) <;> first | trivial | assumption | omega | (simp; done) | (simp; omega) | (simp [*]; done))))
    | (apply Awp.reg; (case hn => (simp only [List.length_cons, List.length_nil, Nat.reduceAdd] <;> rfl)))
    | (refine Awp.skip ?_; try simp only [go_sem, *])
    | refine Awp.block ?_
    | (apply Awp.cond; (case hc => (simp only [go_sem, *] <;> rfl)); all_goals (intro hg; (try simp only [Bool.not_true, Bool.not_false, reduceCtorEq] at hg)))
    | refine Awp.seq ?_
    | (apply sl_a; (case hc => rfl); (case he => (simp only [go_sem, *] <;> rfl)); (case hu => (simp only [updL_nil, updL_cons] <;> rfl)); (case hl => (simp only [List.map_cons, List.map_nil] <;> rfl)); (case hp => first | trivial | assumption | omega | (simp; done) | (simp; omega) | (simp [*]; done) | ((repeat' (refine And.intro ?_ ?_)) <;> first | trivial | assumption | omega | (simp; done) | (simp; omega) | (simp [*]; done))))
    | (apply sl_gn; (case hv => (simp only [go_sem, *] <;> rfl)); (case hbw => rfl))
    | (refine sl_nil (And.intro (by first | exact drawOk_of (by decide +kernel) | (simp only [List.map_cons, List.map_nil]; exact drawOk_of (by decide +kernel)) | decide) ?_)))
            refine ⟨i + 1, by omega, by omega, ?_⟩
            rw [hst]
            (apply Ghost.mk [(3, 229)] []; (case hdead => rfl); (case hinj => rfl); (case hV => (simp only [go_sem, *]) <;> (repeat' (first | refine And.intro ?_ ?_ | exact View.int (by first | rfl | omega | (simp; done) | (rw [wrap_i64] <;> (try simp only [Int.natCast_add]) <;> omega) | (simp [*]; done)) | exact .own rfl (by decide)))); (case hB => (simp only [go_sem, *]) <;> (repeat' (first | refine And.intro ?_ ?_ | exact ⟨_, rfl, .rowE (by first | rfl | omega | (simp; done) | (rw [wrap_i64] <;> (try simp only [Int.natCast_add]) <;> omega) | (simp [*]; done))⟩))))
          · obtain ⟨n, hn⟩ : ∃ n : Nat, M.length = n + 1 := ⟨M.length - 1, by omega⟩
            have hw2 : IntKind.i64.wrap ((M.length : Int) - 1) = (n : Int) := by rw [hw1]; omega
            have hn0 : decide ((0 : Int) ≤ n) = true := decide_eq_true (by omega)
            have hnM : n < M.length := by omega
            have hnM' : (n : Int) < M.length := by omega
            have hatn := sps_at M n hnM
            have hzn : ((M.getD n zeroSp).cells).length = 2 := rfl
            have hsto := fun v => sps_store1 (v := v) hnM
            unfold stepM at hst
            rw [show M.length - 1 = n by omega] at hst
            by_cases hc : s.a ≤ (M.getD n zeroSp).b
            · rw [if_pos ⟨by omega, hc⟩] at hst
              have hc' : decide (s.a ≤ (M.getD n zeroSp).b) = true := decide_eq_true hc
              have hmx : (if (M.getD n zeroSp).b < s.b then s.b else (M.getD n zeroSp).b) = max (M.getD n zeroSp).b s.b := by
                rw [Int.max_def]; split <;> split <;> omega
              have hfin : (sps M).set n [.v (.int .i64 (M.getD n zeroSp).a), .v (.int .i64 (max (M.getD n zeroSp).b s.b))] = sps (mergeS (L.take (i + 1))) := by
                rw [hst]; exact sps_set M n ⟨(M.getD n zeroSp).a, max (M.getD n zeroSp).b s.b⟩
              generalize M.getD n zeroSp = y at *
              clear hsto hw1 hc hn hst hM
              unfold rmS
              repeat' (first
    | (apply Awp.sreg; (case hn => (simp only [List.length_cons, List.length_nil, Nat.reduceAdd] <;> rfl)))
    | (apply Awp.sdraw; (case hn => (simp only [List.length_cons, List.length_nil, Nat.reduceAdd] <;> rfl)))
    | (refine st_nil ?_)
    | (apply st_a; (case hc => rfl); (case he => (simp only [go_sem, *] <;> rfl)); (case hu => (simp only [updL_nil, updL_cons] <;> rfl)); (case hp => first | trivial | assumption | omega | (simp; done) | (simp; omega) | (simp [*]; done) | ((repeat' (refine And.intro ?_ ?_)) <;> first | trivial | assumption | omega | (simp; done) | (simp; omega) | (simp [*]; done))))
    | (apply Awp.reg; (case hn => (simp only [List.length_cons, List.length_nil, Nat.reduceAdd] <;> rfl)))
    | (refine Awp.skip ?_; try simp only [go_sem, *])
    | refine Awp.block ?_
    | (apply Awp.cond; (case hc => (simp only [go_sem, *] <;> rfl)); all_goals (intro hg; (try simp only [Bool.not_true, Bool.not_false, reduceCtorEq] at hg)))
    | refine Awp.seq ?_
    | (refine Awp.draw ?_)
    | (apply sl_a; (case hc => rfl); (case he => (simp only [go_sem, *] <;> rfl)); (case hu => (simp only [updL_nil, updL_cons] <;> rfl)); (case hl => (simp only [List.map_cons, List.map_nil] <;> rfl)); (case hp => first | trivial | assumption | omega | (simp; done) | (simp; omega) | (simp [*]; done) | ((repeat' (refine And.intro ?_ ?_)) <;> first | trivial | assumption | omega | (simp; done) | (simp; omega) | (simp [*]; done))))
    | (apply sl_ga; (case hb => rfl); (case hv => (simp only [go_sem, *] <;> rfl)); (case he => (simp only [go_sem, *] <;> rfl)); (case hu => (simp only [updL_nil, updL_cons] <;> rfl)); (case hl => (simp only [List.map_cons, List.map_nil] <;> rfl)); (case hp => first | trivial | assumption | omega | (simp; done) | (simp; omega) | (simp [*]; done) | ((repeat' (refine And.intro ?_ ?_)) <;> first | trivial | assumption | omega | (simp; done) | (simp; omega) | (simp [*]; done))))
    | (refine sl_nil (And.intro (by first | exact drawOk_of (by decide +kernel) | (simp only [List.map_cons, List.map_nil]; exact drawOk_of (by decide +kernel)) | decide) ?_)))
              refine ⟨i + 1, by omega, by omega, ?_⟩
              (apply Ghost.mk [] []; (case hdead => rfl); (case hinj => rfl); (case hV => (simp only [go_sem, *]) <;> (repeat' (first | refine And.intro ?_ ?_ | exact View.int (by first | rfl | exact hfin | omega | (simp; done) | (rw [wrap_i64] <;> (try simp only [Int.natCast_add]) <;> omega) | (simp [*]; done)) | exact .own rfl (by decide)))); (case hB => (simp only [go_sem, *]) <;> (repeat' (first | refine And.intro ?_ ?_ | exact ⟨_, rfl, .rowE (by first | rfl | exact hfin | omega | (simp; done) | (rw [wrap_i64] <;> (try simp only [Int.natCast_add]) <;> omega) | (simp [*]; done))⟩))))
            · rw [if_neg (fun h => hc h.2)] at hst
              have hc' : decide (s.a ≤ (M.getD n zeroSp).b) = false := decide_eq_false hc
              generalize M.getD n zeroSp = y at *
              clear hsto hw1 hc hn hM
              unfold rmS
              repeat' (first
    | (apply Awp.sreg; (case hn => (simp only [List.length_cons, List.length_nil, Nat.reduceAdd] <;> rfl)))
    | (apply Awp.sdraw; (case hn => (simp only [List.length_cons, List.length_nil, Nat.reduceAdd] <;> rfl)))
    | (refine st_nil ?_)
    | (apply st_a; (case hc => rfl); (case he => (simp only [go_sem, *] <;> rfl)); (case hu => (simp only [updL_nil, updL_cons] <;> rfl)); (case hp => first | trivial | assumption | omega | (simp; done) | (simp; omega) | (simp [*]; done) | ((repeat' (refine And.intro ?_ ?_)) <;> first | trivial | assumption | omega | (simp; done) | (simp; omega) | (simp [*]; done))))
    | (apply Awp.reg; (case hn => (simp only [List.length_cons, List.length_nil, Nat.reduceAdd] <;> rfl)))
    | (refine Awp.skip ?_; try simp only [go_sem, *])
    | refine Awp.block ?_
    | (apply Awp.cond; (case hc => (simp only [go_sem, *] <;> rfl)); all_goals (intro hg; (try simp only [Bool.not_true, Bool.not_false, reduceCtorEq] at hg)))
    | refine Awp.seq ?_
    | (apply sl_a; (case hc => rfl); (case he => (simp only [go_sem, *] <;> rfl)); (case hu => (simp only [updL_nil, updL_cons] <;> rfl)); (case hl => (simp only [List.map_cons, List.map_nil] <;> rfl)); (case hp => first | trivial | assumption | omega | (simp; done) | (simp; omega) | (simp [*]; done) | ((repeat' (refine And.intro ?_ ?_)) <;> first | trivial | assumption | omega | (simp; done) | (simp; omega) | (simp [*]; done))))
    | (apply sl_ga; (case hb => rfl); (case hv => (simp only [go_sem, *] <;> rfl)); (case he => (simp only [go_sem, *] <;> rfl)); (case hu => (simp only [updL_nil, updL_cons] <;> rfl)); (case hl => (simp only [List.map_cons, List.map_nil] <;> rfl)); (case hp => first | trivial | assumption | omega | (simp; done) | (simp; omega) | (simp [*]; done) | ((repeat' (refine And.intro ?_ ?_)) <;> first | trivial | assumption | omega | (simp; done) | (simp; omega) | (simp [*]; done))))
    | (refine sl_nil (And.intro (by first | exact drawOk_of (by decide +kernel) | (simp only [List.map_cons, List.map_nil]; exact drawOk_of (by decide +kernel)) | decide) ?_)))
              refine ⟨i + 1, by omega, by omega, ?_⟩
              rw [hst]
              (apply Ghost.mk [(3, 229)] []; (case hdead => rfl); (case hinj => rfl); (case hV => (simp only [go_sem, *]) <;> (repeat' (first | refine And.intro ?_ ?_ | exact View.int (by first | rfl | omega | (simp; done) | (rw [wrap_i64] <;> (try simp only [Int.natCast_add]) <;> omega) | (simp [*]; done)) | exact .own rfl (by decide)))); (case hB => (simp only [go_sem, *]) <;> (repeat' (first | refine And.intro ?_ ?_ | exact ⟨_, rfl, .rowE (by first | rfl | omega | (simp; done) | (rw [wrap_i64] <;> (try simp only [Int.natCast_add]) <;> omega) | (simp [*]; done))⟩))))
        · have hlt' : ¬ (i : Int) < L.length := by omega
          have e1 : L.take i = L := List.take_of_length_le (by omega)
          rw [e1]
          have hLn := sps_len L
          unfold rmS
          repeat' (first
    | (apply Awp.sreg; (case hn => (simp only [List.length_cons, List.length_nil, Nat.reduceAdd] <;> rfl)))
    | (refine st_nil ?_)
    | (apply st_a; (case hc => rfl); (case he => (simp only [go_sem, *] <;> rfl)); (case hu => (simp only [updL_nil, updL_cons] <;> rfl)); (case hp => first | trivial | assumption | omega | (simp; done) | (simp; omega) | (simp [*]; done) | ((repeat' (refine And.intro ?_ ?_)) <;> first | trivial | assumption | omega | (simp; done) | (simp; omega) | (simp [*]; done))))
    | (refine Awp.ret ?_; try simp only [go_sem, *])
    | (refine Awp.exit ?_; try simp only [go_sem, *])
    | (apply Awp.cond; (case hc => (simp only [go_sem, *] <;> rfl)); all_goals (intro hg; (try simp only [Bool.not_true, Bool.not_false, reduceCtorEq] at hg)))
    | refine Awp.seq ?_)
          exact ⟨_, rfl, rfl⟩
end Go.Proofs
end
