import Derived.Test.YtkgaiaapkcgdkaaPYE
import Derived.ProofKit
import Derived.OpenShut
import Derived.Test.YtkgaiaapkcgdkaaRows
import Derived.WalkKit
import Derived.DataShut
import Derived.Deep.DeepHandedRow
import Derived.Lib.LaidTab
section
set_option linter.unusedVariables false
set_option linter.unusedSimpArgs false
namespace Go.Proofs
open Go Go.Ab
set_option maxHeartbeats 8000000
set_option maxRecDepth 100000
attribute [local irreducible] Awp aops aopsL Go.Ab.Pure PureOwn
theorem few_right {x : Plate} (h : fewB x.tk = true) (hR : rightB x.len x.wid x.tk x.gap = true) : x.tk.length ≤ 6 := by
  have := (good_of hR).1.few
  unfold fewB at h
  rw [Bool.or_eq_true, decide_eq_true_eq, decide_eq_true_eq] at h
  omega
theorem frees_body (x : Plate) : Pure Try.prog 3 [x.av] (.v (.bool true)) := by
  have f := few_ok x
  have aw := awake_ok
  cases hF : fewB x.tk
  · rw [hF] at f
    refine fn_pure Try.F3 (Nat.le_of_ble_eq_true rfl) ?_; unfold Try.ac3
    repeat' (first
 | (apply Awp.sreg; (case hn => (simp only [List.length_cons, List.length_nil, Nat.reduceAdd] <;> rfl)))
 | (refine st_nil ?_)
 | (apply st_a; (case hc => rfl); (case he => (simp only [go_sem, *] <;> rfl)); (case hu => (simp only [updL_nil, updL_cons] <;> rfl)); (case hp => first | trivial))
 | (apply st_c; (case hc => (simp only [go_sem, *] <;> rfl)); (case hl => (simp only [go_sem, *] <;> rfl)); (case hn => (simp only [go_sem, *] <;> rfl)); (case hp => first | exact f | (have hXz := f; simp only [go_sem, *] at hXz; exact hXz)))
 | (apply st_c; (case hc => (simp only [go_sem, *] <;> rfl)); (case hl => (simp only [go_sem, *] <;> rfl)); (case hn => (simp only [go_sem, *] <;> rfl)); (case hp => first | exact aw | (have hXz := aw; simp only [go_sem, *] at hXz; exact hXz)))
 | (refine Awp.ret ?_; try simp only [go_sem, *])
 | (apply Awp.cond; (case hc => (simp only [go_sem, *] <;> rfl)); all_goals (intro hg; (try simp only [Bool.not_true, Bool.not_false, reduceCtorEq] at hg)))
 | refine Awp.seq ?_)
    all_goals repeat' (first | exact Lower.bool (by first | rfl | (simp only [true_and, Bool.true_and, Bool.false_and, Bool.and_true, Bool.and_false, Bool.true_or, Bool.false_or, reduceIte, Bool.false_eq_true, *]; done) | (simp only [true_and, reduceIte, Bool.false_eq_true, *] <;> rfl) | (simp [true_and]; done) | (simp_all [true_and]; done) | omega))
  · have c1 := frees_ok x.len x.wid x.tk x.gap
    have c2 := rfrees_ok x.len x.wid x.tk x.gap (few_right hF)
    have c3 := same_ok (freesE x.len x.wid x.tk x.gap) frees_len
    rw [hF] at f
    generalize freesE x.len x.wid x.tk x.gap = M at *
    clear hF
    refine fn_pure Try.F3 (Nat.le_of_ble_eq_true rfl) ?_; unfold Try.ac3
    repeat' (first
 | (apply Awp.sreg; (case hn => (simp only [List.length_cons, List.length_nil, Nat.reduceAdd] <;> rfl)))
 | (apply Awp.sdraw; (case hn => (simp only [List.length_cons, List.length_nil, Nat.reduceAdd] <;> rfl)))
 | (refine st_nil ?_)
 | (apply st_a; (case hc => rfl); (case he => (simp only [go_sem, *] <;> rfl)); (case hu => (simp only [updL_nil, updL_cons] <;> rfl)); (case hp => first | trivial))
 | (apply st_c; (case hc => (simp only [go_sem, *] <;> rfl)); (case hl => (simp only [go_sem, *] <;> rfl)); (case hn => (simp only [go_sem, *] <;> rfl)); (case hp => first | exact f | (have hXz := f; simp only [go_sem, *] at hXz; exact hXz)))
 | (refine Awp.ret ?_; try simp only [go_sem, *])
 | (refine Awp.skip ?_; try simp only [go_sem, *])
 | (apply Awp.cond; (case hc => (simp only [go_sem, *] <;> rfl)); all_goals (intro hg; (try simp only [Bool.not_true, Bool.not_false, reduceCtorEq] at hg)))
 | refine Awp.seq ?_
 | (apply sl_a; (case hc => rfl); (case he => (simp only [go_sem, *] <;> rfl)); (case hu => (simp only [updL_nil, updL_cons] <;> rfl)); (case hl => (simp only [List.map_cons, List.map_nil] <;> rfl)); (case hp => first | trivial))
 | (apply sl_cg; (case hop => rfl); (case hv => (simp only [go_sem, *] <;> rfl)); (case hc => (simp only [go_sem, *] <;> rfl)); (case hl => (simp only [go_sem, *] <;> rfl)); (case hn => (simp only [go_sem, *] <;> rfl)); (case hp => first | exact aw | (have hXz := aw; simp only [go_sem, *] at hXz; exact hXz)); (case hd => first | exact .inl rfl | exact .inr (.v _) | exact .inr .any | exact .inr .nils | (refine .inr ?_; (repeat' (first | exact Dry.v _ | exact Dry.any | exact Dry.nils | exact Dry.slE | refine Dry.agg ?_ | refine Dry.tup ?_ | (refine List.forall_mem_cons.2 (And.intro ?_ ?_)) | (intro cQ hQ; cases hQ; done))); done)); (case hm => first | decide | (simp; done)))
 | (apply sl_c; (case hc => (simp only [go_sem, *] <;> rfl)); (case hl => (simp only [go_sem, *] <;> rfl)); (case hn => (simp only [go_sem, *] <;> rfl)); (case hp => first | exact c1 | (have hXz := c1; simp only [go_sem, *] at hXz; exact hXz)); (case hd => first | exact .inl rfl | exact .inr (.v _) | exact .inr .any | exact .inr .nils | (refine .inr ?_; (repeat' (first | exact Dry.v _ | exact Dry.any | exact Dry.nils | exact Dry.slE | refine Dry.agg ?_ | refine Dry.tup ?_ | (refine List.forall_mem_cons.2 (And.intro ?_ ?_)) | (intro cQ hQ; cases hQ; done))); done)); (case hm => first | decide | (simp; done)))
 | (apply sl_c; (case hc => (simp only [go_sem, *] <;> rfl)); (case hl => (simp only [go_sem, *] <;> rfl)); (case hn => (simp only [go_sem, *] <;> rfl)); (case hp => first | exact c2 | (have hXz := c2; simp only [go_sem, *] at hXz; exact hXz)); (case hd => first | exact .inl rfl | exact .inr (.v _) | exact .inr .any | exact .inr .nils | (refine .inr ?_; (repeat' (first | exact Dry.v _ | exact Dry.any | exact Dry.nils | exact Dry.slE | refine Dry.agg ?_ | refine Dry.tup ?_ | (refine List.forall_mem_cons.2 (And.intro ?_ ?_)) | (intro cQ hQ; cases hQ; done))); done)); (case hm => first | decide | (simp; done)))
 | (apply sl_c; (case hc => (simp only [go_sem, *] <;> rfl)); (case hl => (simp only [go_sem, *] <;> rfl)); (case hn => (simp only [go_sem, *] <;> rfl)); (case hp => first | exact c3 | (have hXz := c3; simp only [go_sem, *] at hXz; exact hXz)); (case hd => first | exact .inl rfl | exact .inr (.v _) | exact .inr .any | exact .inr .nils | (refine .inr ?_; (repeat' (first | exact Dry.v _ | exact Dry.any | exact Dry.nils | exact Dry.slE | refine Dry.agg ?_ | refine Dry.tup ?_ | (refine List.forall_mem_cons.2 (And.intro ?_ ?_)) | (intro cQ hQ; cases hQ; done))); done)); (case hm => first | decide | (simp; done)))
 | (refine sl_nil (And.intro (by first | exact drawOk_of (by decide +kernel) | (simp only [List.map_cons, List.map_nil]; exact drawOk_of (by decide +kernel)) | decide) ?_)))
    all_goals repeat' (first | exact Lower.bool (by first | rfl | (simp only [true_and, Bool.true_and, Bool.false_and, Bool.and_true, Bool.and_false, Bool.true_or, Bool.false_or, reduceIte, Bool.false_eq_true, *]; done) | (simp only [true_and, reduceIte, Bool.false_eq_true, *] <;> rfl) | (simp [true_and]; done) | (simp_all [true_and]; done) | omega))
theorem largest_body (x : Plate) : Pure Try.prog 4 [x.av] (.v (.bool true)) := by
  have f := few_ok x
  have aw := awake_ok
  cases hF : fewB x.tk
  · rw [hF] at f
    refine fn_pure Try.F4 (Nat.le_of_ble_eq_true rfl) ?_; unfold Try.ac4
    repeat' (first
 | (apply Awp.sreg; (case hn => (simp only [List.length_cons, List.length_nil, Nat.reduceAdd] <;> rfl)))
 | (refine st_nil ?_)
 | (apply st_a; (case hc => rfl); (case he => (simp only [go_sem, *] <;> rfl)); (case hu => (simp only [updL_nil, updL_cons] <;> rfl)); (case hp => first | trivial))
 | (apply st_c; (case hc => (simp only [go_sem, *] <;> rfl)); (case hl => (simp only [go_sem, *] <;> rfl)); (case hn => (simp only [go_sem, *] <;> rfl)); (case hp => first | exact f | (have hXz := f; simp only [go_sem, *] at hXz; exact hXz)))
 | (apply st_c; (case hc => (simp only [go_sem, *] <;> rfl)); (case hl => (simp only [go_sem, *] <;> rfl)); (case hn => (simp only [go_sem, *] <;> rfl)); (case hp => first | exact aw | (have hXz := aw; simp only [go_sem, *] at hXz; exact hXz)))
 | (refine Awp.ret ?_; try simp only [go_sem, *])
 | (apply Awp.cond; (case hc => (simp only [go_sem, *] <;> rfl)); all_goals (intro hg; (try simp only [Bool.not_true, Bool.not_false, reduceCtorEq] at hg)))
 | refine Awp.seq ?_)
    all_goals repeat' (first | exact Lower.bool (by first | rfl | (simp only [true_and, Bool.true_and, Bool.false_and, Bool.and_true, Bool.and_false, Bool.true_or, Bool.false_or, reduceIte, Bool.false_eq_true, *]; done) | (simp only [true_and, reduceIte, Bool.false_eq_true, *] <;> rfl) | (simp [true_and]; done) | (simp_all [true_and]; done) | omega))
  · have c1 := largest_ok x.len x.wid x.tk x.gap
    have c2 := rlargest_ok x.len x.wid x.tk x.gap (few_right hF) (rfrees_ok x.len x.wid x.tk x.gap (few_right hF))
    rw [hF] at f
    generalize largestE x.len x.wid x.tk x.gap = L at *
    clear hF
    obtain ⟨r, ok⟩ := L
    simp only [] at c1 c2
    have e1 : (r.a == r.a) = true := by simp
    have e2 : (r.b == r.b) = true := by simp
    have e3 : (r.c == r.c) = true := by simp
    have e4 : (r.d == r.d) = true := by simp
    have e5 : (ok == ok) = true := by simp
    refine fn_pure Try.F4 (Nat.le_of_ble_eq_true rfl) ?_; unfold Try.ac4
    repeat' (first
 | (apply Awp.sreg; (case hn => (simp only [List.length_cons, List.length_nil, Nat.reduceAdd] <;> rfl)))
 | (refine st_nil ?_)
 | (apply st_a; (case hc => rfl); (case he => (simp only [go_sem, *] <;> rfl)); (case hu => (simp only [updL_nil, updL_cons] <;> rfl)); (case hp => first | trivial))
 | (apply st_m; (case hc => rfl); (case hg => (simp only [go_sem, *] <;> rfl)); (case he => (intro hQz; (try simp only [wantB_t, wantB_f, Bool.and_eq_true, Bool.not_eq_true', Bool.not_true, Bool.not_false, and_true, true_and] at hQz); simp only [go_sem, *] <;> rfl)); (case hp => (intro hQz; (try simp only [wantB_t, wantB_f, Bool.and_eq_true, Bool.not_eq_true', Bool.or_eq_false_iff, decide_eq_true_eq, decide_eq_false_iff_not, beq_iff_eq, beq_eq_false_iff_ne, bne_iff_ne, bne_eq_false_iff_eq, Int.not_lt, Int.not_le, Int.ofNat_lt, Int.ofNat_le] at hQz); first | trivial)))
 | (apply st_c; (case hc => (simp only [go_sem, *] <;> rfl)); (case hl => (simp only [go_sem, *] <;> rfl)); (case hn => (simp only [go_sem, *] <;> rfl)); (case hp => first | exact f | (have hXz := f; simp only [go_sem, *] at hXz; exact hXz)))
 | (apply st_mc; (case hop => rfl); (case hg => (simp only [go_sem, *] <;> rfl)); (case hc => (intro hQz; (try simp only [wantB_t, wantB_f, Bool.and_eq_true, Bool.not_eq_true', Bool.not_true, Bool.not_false, and_true, true_and] at hQz); simp only [go_sem, *] <;> rfl)); (case hl => (intro hQz; (try simp only [wantB_t, wantB_f, Bool.and_eq_true, Bool.not_eq_true', Bool.not_true, Bool.not_false, and_true, true_and] at hQz); simp only [go_sem, *] <;> rfl)); (case hn => (intro hQz; (try simp only [wantB_t, wantB_f, Bool.and_eq_true, Bool.not_eq_true', Bool.not_true, Bool.not_false, and_true, true_and] at hQz); simp only [go_sem, *] <;> rfl)); (case hp => intro hQz; first | exact aw | (have hXz := aw; simp only [go_sem, *] at hXz; exact hXz)))
 | (apply st_c; (case hc => (simp only [go_sem, *] <;> rfl)); (case hl => (simp only [go_sem, *] <;> rfl)); (case hn => (simp only [go_sem, *] <;> rfl)); (case hp => first | exact c1 | (have hXz := c1; simp only [go_sem, *] at hXz; exact hXz)))
 | (apply st_c; (case hc => (simp only [go_sem, *] <;> rfl)); (case hl => (simp only [go_sem, *] <;> rfl)); (case hn => (simp only [go_sem, *] <;> rfl)); (case hp => first | exact c2 | (have hXz := c2; simp only [go_sem, *] at hXz; exact hXz)))
 | (refine Awp.ret ?_; try simp only [go_sem, *])
 | (refine Awp.skip ?_; try simp only [go_sem, *])
 | (apply Awp.cond; (case hc => (simp only [go_sem, *] <;> rfl)); all_goals (intro hg; (try simp only [Bool.not_true, Bool.not_false, reduceCtorEq] at hg)))
 | refine Awp.seq ?_)
    all_goals repeat' (first | exact Lower.bool (by first | rfl | (simp only [true_and, Bool.true_and, Bool.false_and, Bool.and_true, Bool.and_false, Bool.true_or, Bool.false_or, reduceIte, Bool.false_eq_true, *]; done) | (simp only [true_and, reduceIte, Bool.false_eq_true, *] <;> rfl) | (simp [true_and]; done) | (simp_all [true_and]; done) | omega))
theorem frees_few {len wid : Int} {l : List Rc} {g : Int} (hl : l.length ≤ 6) : (freesE len wid l g).length ≤ 637 := by
  unfold freesE
  cases hR : rightB len wid l g
  · rw [if_neg (by decide)]; simp
  · rw [if_pos rfl]
    obtain ⟨hT, hlen, hwid⟩ := good_of hR
    have htl := tkE_lenQ g l
    obtain ⟨hS, hSl⟩ := sides_spec (tkE g l) (show 0 < len by omega)
    have hin : ∀ r ∈ maxL len wid l g, r ∈ ownE len wid l g (sidesE len (tkE g l)) := fun r hr => (wide_max (by omega) hS r).2 ((maxL_mem len wid l g (by omega) (by omega) r).1 hr)
    have hnd : (maxL len wid l g).Pairwise (· ≠ ·) := (maxL_asc len wid l g (by omega) (by omega)).imp fun {x y} h => by
      rintro rfl
      exact rcLt_irrefl x h
    exact Nat.le_trans (nodup_len _ _ hnd hin) (ownE_few hl (by omega))
structure ListM (len wid : Int) (l : List Rc) (g : Int) (M : List Rc) : Prop where
  good : M ≠ [] → GoodT l g
  free : ∀ i, i < M.length → freeR len wid l g (M.getD i zeroRc) = true
  sep : ∀ i k, i < M.length → k < M.length → k ≠ i → withinB (M.getD i zeroRc) (M.getD k zeroRc) = false
  all : M ≠ [] → ∀ y, freeR len wid l g y = true → M.any (withinB y) = true
  small : ∀ i, i < M.length → Small (M.getD i zeroRc)
theorem frees_list (len wid : Int) (l : List Rc) (g : Int) : ListM len wid l g (freesE len wid l g) := by
  cases hR : rightB len wid l g
  · have e : freesE len wid l g = [] := by unfold freesE; rw [hR]; rfl
    rw [e]
    exact ⟨fun h => absurd rfl h, fun i hi => by simp at hi, fun i k hi => by simp at hi, fun h => absurd rfl h, fun i hi => by simp at hi⟩
  · have e : freesE len wid l g = maxL len wid l g := by unfold freesE; rw [hR]; rfl
    obtain ⟨hT, hlen, hwid⟩ := good_of hR
    have hm := fun r => maxL_mem len wid l g (show 0 < len by omega) (show 0 < wid by omega) r
    have ha := maxL_asc len wid l g (show 0 < len by omega) (show 0 < wid by omega)
    have hsm := maxL_small (len := len) (wid := wid) (l := l) (g := g)
    rw [e] at hsm ⊢
    have hget := fun i (h : i < (maxL len wid l g).length) => getD_in (maxL len wid l g) zeroRc i h
    refine ⟨fun _ => hT, fun i hi => max_free ((hm _).1 (hget i hi)), fun i k hi hk hne => ?_, fun h y hy => ?_, fun i hi => hsm _ (hget i hi)⟩
    · rw [Bool.eq_false_iff]
      intro hw
      have heq := max_within ((hm _).1 (hget i hi)) (max_free ((hm _).1 (hget k hk))) hw
      rw [getD_get _ _ i hi, getD_get _ _ k hk] at heq
      rcases Nat.lt_or_gt_of_ne hne with h | h
      · have := List.pairwise_iff_getElem.1 ha k i hk hi h
        rw [heq] at this
        exact rcLt_irrefl _ this
      · have := List.pairwise_iff_getElem.1 ha i k hi hk h
        rw [heq] at this
        exact rcLt_irrefl _ this
    · obtain ⟨z, hz, hw⟩ := max_ex hy
      exact List.any_eq_true.2 ⟨z, (hm z).2 hz, hw⟩
theorem any_tk {α : Type} (p : α → Bool) (l : List α) (d : α) (i : Nat) (h : i < l.length) : (l.take (i + 1)).any p = ((l.take i).any p || p (l.getD i d)) := by
  rw [take_snoc l d i h, List.any_append]
  simp
theorem maximal_body (x : Plate) (y : Rc) : Pure Try.prog 5 [x.av, y.av] (.v (.bool true)) := by
  have aw := awake_ok
  by_cases h6 : x.tk.length ≤ 6
  case neg =>
    have h6' : decide ((6 : Int) < x.tk.length) = true := decide_eq_true (by omega)
    clear h6
    refine fn_pure Try.F5 (Nat.le_of_ble_eq_true rfl) ?_; unfold Try.ac5
    repeat' (first
 | (apply Awp.sreg; (case hn => (simp only [List.length_cons, List.length_nil, Nat.reduceAdd] <;> rfl)))
 | (refine st_nil ?_)
 | (apply st_a; (case hc => rfl); (case he => (simp only [go_sem, *] <;> rfl)); (case hu => (simp only [updL_nil, updL_cons] <;> rfl)); (case hp => first | trivial))
 | (apply st_c; (case hc => (simp only [go_sem, *] <;> rfl)); (case hl => (simp only [go_sem, *] <;> rfl)); (case hn => (simp only [go_sem, *] <;> rfl)); (case hp => first | exact aw | (have hXz := aw; simp only [go_sem, *] at hXz; exact hXz)))
 | (refine Awp.ret ?_; try simp only [go_sem, *])
 | (apply Awp.cond; (case hc => (simp only [go_sem, *] <;> rfl)); all_goals (intro hg; (try simp only [Bool.not_true, Bool.not_false, reduceCtorEq] at hg)))
 | refine Awp.seq ?_)
    all_goals repeat' (first | exact Lower.bool (by first | rfl | (simp only [true_and, Bool.true_and, Bool.false_and, Bool.and_true, Bool.and_false, Bool.true_or, Bool.false_or, reduceIte, Bool.false_eq_true, *]; done) | (simp only [true_and, reduceIte, Bool.false_eq_true, *] <;> rfl) | (simp [true_and]; done) | (simp_all [true_and]; done) | omega))
  have h6' : decide ((6 : Int) < x.tk.length) = false := decide_eq_false (by omega)
  have c1 := frees_ok x.len x.wid x.tk x.gap
  have hfl := frees_few (len := x.len) (wid := x.wid) (g := x.gap) h6
  have hL := frees_list x.len x.wid x.tk x.gap
  have c2 := largest_ok x.len x.wid x.tk x.gap
  unfold largestE at c2
  generalize freesE x.len x.wid x.tk x.gap = M at *
  have hm : decide ((1000 : Int) < M.length) = false := decide_eq_false (by omega)
  have kf := fun h z => rfree_ok x.len x.wid x.tk x.gap z (hL.good h)
  have kw := fun i => rwithin_ok y (M.getD i zeroRc)
  have kv := fun i k => rwithin_ok (M.getD i zeroRc) (M.getD k zeroRc)
  clear h6
  refine fn_pure Try.F5 (Nat.le_of_ble_eq_true rfl) ?_; unfold Try.ac5
  repeat' (first
 | (apply Awp.sreg; (case hn => (simp only [List.length_cons, List.length_nil, Nat.reduceAdd] <;> rfl)))
 | (refine st_nil ?_)
 | (apply st_a; (case hc => rfl); (case he => (simp only [go_sem, *] <;> rfl)); (case hu => (simp only [updL_nil, updL_cons] <;> rfl)); (case hp => first | trivial))
 | (apply st_c; (case hc => (simp only [go_sem, *] <;> rfl)); (case hl => (simp only [go_sem, *] <;> rfl)); (case hn => (simp only [go_sem, *] <;> rfl)); (case hp => first | exact c1 | (have hXz := c1; simp only [go_sem, *] at hXz; exact hXz)))
 | (refine Awp.skip ?_; try simp only [go_sem, *])
 | refine Awp.block ?_
 | (apply Awp.cond; (case hc => (simp only [go_sem, *] <;> rfl)); all_goals (intro hg; (try simp only [Bool.not_true, Bool.not_false, reduceCtorEq] at hg)))
 | refine Awp.seq ?_)
  clear c1
  refine Awp.loop (fun i : Nat => i ≤ M.length) 60 (fun i => mkS [(2, .bp 0 0), (3, .bp 1 0), (5, .sl (rcs M)), (6, .v (.bool ((M.take i).any (withinB y)))), (7, .v (.int .i64 i))] [(0, .box [.v (.int .i64 x.len), .v (.int .i64 x.wid), .sl (rcs x.tk), .v (.int .i64 x.gap)]), (1, .box y.cells)]) (fun i => M.length - i) 0 (by omega) ?_ ?_
  · have e1 : (M.take 0).any (withinB y) = false := rfl
    rw [e1]
    clear hL kf kw kv c2 aw
    (apply Ghost.mk [(0, 0), (1, 1)] []; (case hdead => rfl); (case hinj => rfl); (case hV => (simp only [go_sem, *]) <;> (repeat' (first | refine And.intro ?_ ?_ | exact View.int (by first | rfl | omega | (simp; done) | (rw [wrap_i64] <;> (try simp only [Int.natCast_add]) <;> omega) | (simp [*]; done)) | exact .bp rfl (by decide)))); (case hB => (simp only [go_sem, *]) <;> (repeat' (first | refine And.intro ?_ ?_ | exact ⟨_, rfl, BView.boxF rfl⟩))))
  · intro i hi
    by_cases hlt : i < M.length
    · have hlt' : (i : Int) < M.length := by omega
      have hat := rcs_at M i hlt
      have hz : ((M.getD i zeroRc).cells).length = 4 := rfl
      have hst := any_tk (withinB y) M zeroRc i hlt
      have k1 := kw i
      have hne : M ≠ [] := fun e => by rw [e] at hlt; simp at hlt
      have k2 := kf hne (M.getD i zeroRc)
      rw [hL.free i hlt] at k2
      have hsep := fun k => hL.sep i k hlt
      clear hL kf kw c2 aw hne
      generalize (M.take i).any (withinB y) = b0 at *
      cases b0
      · rw [Bool.false_or] at hst
        generalize hwz : withinB y (M.getD i zeroRc) = b1 at *
        clear hwz
        repeat' (first
 | (apply Awp.sreg; (case hn => (simp only [List.length_cons, List.length_nil, Nat.reduceAdd] <;> rfl)))
 | (apply Awp.sdraw; (case hn => (simp only [List.length_cons, List.length_nil, Nat.reduceAdd] <;> rfl)))
 | (refine st_nil ?_)
 | (apply st_a; (case hc => rfl); (case he => (simp only [go_sem, *] <;> rfl)); (case hu => (simp only [updL_nil, updL_cons] <;> rfl)); (case hp => first | trivial))
 | (refine Awp.skip ?_; try simp only [go_sem, *])
 | refine Awp.block ?_
 | (apply Awp.cond; (case hc => (simp only [go_sem, *] <;> rfl)); all_goals (intro hg; (try simp only [Bool.not_true, Bool.not_false, reduceCtorEq] at hg)))
 | refine Awp.seq ?_
 | (apply sl_a; (case hc => rfl); (case he => (simp only [go_sem, *] <;> rfl)); (case hu => (simp only [updL_nil, updL_cons] <;> rfl)); (case hl => (simp only [List.map_cons, List.map_nil] <;> rfl)); (case hp => first | trivial))
 | (apply sl_ga; (case hb => rfl); (case hv => (simp only [go_sem, *] <;> rfl)); (case he => (simp only [go_sem, *] <;> rfl)); (case hu => (simp only [updL_nil, updL_cons] <;> rfl)); (case hl => (simp only [List.map_cons, List.map_nil] <;> rfl)); (case hp => first | trivial | omega))
 | (apply sl_cg; (case hop => rfl); (case hv => (simp only [go_sem, *] <;> rfl)); (case hc => (simp only [go_sem, *] <;> rfl)); (case hl => (simp only [go_sem, *] <;> rfl)); (case hn => (simp only [go_sem, *] <;> rfl)); (case hp => first | exact k1 | (have hXz := k1; simp only [go_sem, *] at hXz; exact hXz)); (case hd => first | exact .inl rfl | exact .inr (.v _) | exact .inr .any | exact .inr .nils | (refine .inr ?_; (repeat' (first | exact Dry.v _ | exact Dry.any | exact Dry.nils | exact Dry.slE | refine Dry.agg ?_ | refine Dry.tup ?_ | (refine List.forall_mem_cons.2 (And.intro ?_ ?_)) | (intro cQ hQ; cases hQ; done))); done)); (case hm => first | decide | (simp; done)))
 | (refine sl_nil (And.intro (by first | exact drawOk_of (by decide +kernel) | (simp only [List.map_cons, List.map_nil]; exact drawOk_of (by decide +kernel)) | decide) ?_)))
        refine Awp.loop (fun k : Nat => k ≤ M.length) 150 (fun k => mkS [(2, .bp 0 0), (3, .bp 1 0), (5, .sl (rcs M)), (6, .v (.bool b1)), (7, .v (.int .i64 i)), (8, .v (.int .i64 k))] [(0, .box [.v (.int .i64 x.len), .v (.int .i64 x.wid), .sl (rcs x.tk), .v (.int .i64 x.gap)]), (1, .box y.cells)]) (fun k => M.length - k) 0 (by omega) ?_ ?_
        · clear hst k1 k2 hsep kv
          (apply Ghost.mk [(0, 0), (1, 1)] []; (case hdead => rfl); (case hinj => rfl); (case hV => (simp only [go_sem, *]) <;> (repeat' (first | refine And.intro ?_ ?_ | exact View.int (by first | rfl | omega | (simp; done) | (rw [wrap_i64] <;> (try simp only [Int.natCast_add]) <;> omega) | (simp [*]; done)) | exact .bp rfl (by decide)))); (case hB => (simp only [go_sem, *]) <;> (repeat' (first | refine And.intro ?_ ?_ | exact ⟨_, rfl, BView.boxF rfl⟩))))
        · intro k hk
          by_cases hlk : k < M.length
          · have hlk' : (k : Int) < M.length := by omega
            have hatk := rcs_at M k hlk
            have hzk : ((M.getD k zeroRc).cells).length = 4 := rfl
            by_cases hki : k = i
            · have hnk : ((k : Int) != (i : Int)) = false := by rw [hki]; simp
              clear hst k1 k2 hsep kv hki
              repeat' (first
 | (apply Awp.sreg; (case hn => (simp only [List.length_cons, List.length_nil, Nat.reduceAdd] <;> rfl)))
 | (apply Awp.sdraw; (case hn => (simp only [List.length_cons, List.length_nil, Nat.reduceAdd] <;> rfl)))
 | (refine st_nil ?_)
 | (apply st_a; (case hc => rfl); (case he => (simp only [go_sem, *] <;> rfl)); (case hu => (simp only [updL_nil, updL_cons] <;> rfl)); (case hp => first | trivial))
 | (apply Awp.reg; (case hn => (simp only [List.length_cons, List.length_nil, Nat.reduceAdd] <;> rfl)))
 | (refine Awp.skip ?_; try simp only [go_sem, *])
 | refine Awp.block ?_
 | (apply Awp.cond; (case hc => (simp only [go_sem, *] <;> rfl)); all_goals (intro hg; (try simp only [Bool.not_true, Bool.not_false, reduceCtorEq] at hg)))
 | refine Awp.seq ?_
 | (apply sl_a; (case hc => rfl); (case he => (simp only [go_sem, *] <;> rfl)); (case hu => (simp only [updL_nil, updL_cons] <;> rfl)); (case hl => (simp only [List.map_cons, List.map_nil] <;> rfl)); (case hp => first | trivial))
 | (apply sl_gn; (case hv => (simp only [go_sem, *] <;> rfl)); (case hbw => rfl))
 | (refine sl_nil (And.intro (by first | exact drawOk_of (by decide +kernel) | (simp only [List.map_cons, List.map_nil]; exact drawOk_of (by decide +kernel)) | decide) ?_)))
              all_goals (refine ⟨k + 1, by omega, by omega, ?_⟩; (apply Ghost.mk [(0, 0), (1, 1)] []; (case hdead => rfl); (case hinj => rfl); (case hV => (simp only [go_sem, *]) <;> (repeat' (first | refine And.intro ?_ ?_ | exact View.int (by first | rfl | omega | (simp; done) | (rw [wrap_i64] <;> (try simp only [Int.natCast_add]) <;> omega) | (simp [*]; done)) | exact .bp rfl (by decide)))); (case hB => (simp only [go_sem, *]) <;> (repeat' (first | refine And.intro ?_ ?_ | exact ⟨_, rfl, BView.boxF rfl⟩)))))
            · have hnk : ((k : Int) != (i : Int)) = true := by rw [bne_iff_ne]; omega
              have kk := kv i k
              rw [hsep k hlk hki] at kk
              clear hst k1 k2 hsep kv hki
              generalize M.getD k zeroRc = z at *
              generalize M.getD i zeroRc = r at *
              repeat' (first
 | (apply Awp.sreg; (case hn => (simp only [List.length_cons, List.length_nil, Nat.reduceAdd] <;> rfl)))
 | (apply Awp.sdraw; (case hn => (simp only [List.length_cons, List.length_nil, Nat.reduceAdd] <;> rfl)))
 | (refine st_nil ?_)
 | (apply st_a; (case hc => rfl); (case he => (simp only [go_sem, *] <;> rfl)); (case hu => (simp only [updL_nil, updL_cons] <;> rfl)); (case hp => first | trivial))
 | (apply Awp.reg; (case hn => (simp only [List.length_cons, List.length_nil, Nat.reduceAdd] <;> rfl)))
 | (refine Awp.skip ?_; try simp only [go_sem, *])
 | refine Awp.block ?_
 | (apply Awp.cond; (case hc => (simp only [go_sem, *] <;> rfl)); all_goals (intro hg; (try simp only [Bool.not_true, Bool.not_false, reduceCtorEq] at hg)))
 | refine Awp.seq ?_
 | (apply sl_a; (case hc => rfl); (case he => (simp only [go_sem, *] <;> rfl)); (case hu => (simp only [updL_nil, updL_cons] <;> rfl)); (case hl => (simp only [List.map_cons, List.map_nil] <;> rfl)); (case hp => first | trivial))
 | (apply sl_ga; (case hb => rfl); (case hv => (simp only [go_sem, *] <;> rfl)); (case he => (simp only [go_sem, *] <;> rfl)); (case hu => (simp only [updL_nil, updL_cons] <;> rfl)); (case hl => (simp only [List.map_cons, List.map_nil] <;> rfl)); (case hp => first | trivial | omega))
 | (apply sl_cg; (case hop => rfl); (case hv => (simp only [go_sem, *] <;> rfl)); (case hc => (simp only [go_sem, *] <;> rfl)); (case hl => (simp only [go_sem, *] <;> rfl)); (case hn => (simp only [go_sem, *] <;> rfl)); (case hp => first | exact kk | (have hXz := kk; simp only [go_sem, *] at hXz; exact hXz)); (case hd => first | exact .inl rfl | exact .inr (.v _) | exact .inr .any | exact .inr .nils | (refine .inr ?_; (repeat' (first | exact Dry.v _ | exact Dry.any | exact Dry.nils | exact Dry.slE | refine Dry.agg ?_ | refine Dry.tup ?_ | (refine List.forall_mem_cons.2 (And.intro ?_ ?_)) | (intro cQ hQ; cases hQ; done))); done)); (case hm => first | decide | (simp; done)))
 | (refine sl_nil (And.intro (by first | exact drawOk_of (by decide +kernel) | (simp only [List.map_cons, List.map_nil]; exact drawOk_of (by decide +kernel)) | decide) ?_)))
              all_goals (refine ⟨k + 1, by omega, by omega, ?_⟩; clear kk; (apply Ghost.mk [(0, 0), (1, 1)] []; (case hdead => rfl); (case hinj => rfl); (case hV => (simp only [go_sem, *]) <;> (repeat' (first | refine And.intro ?_ ?_ | exact View.int (by first | rfl | omega | (simp; done) | (rw [wrap_i64] <;> (try simp only [Int.natCast_add]) <;> omega) | (simp [*]; done)) | exact .bp rfl (by decide)))); (case hB => (simp only [go_sem, *]) <;> (repeat' (first | refine And.intro ?_ ?_ | exact ⟨_, rfl, BView.boxF rfl⟩)))))
          · have hlk' : ¬ (k : Int) < M.length := by omega
            clear hsep kv k1
            generalize M.getD i zeroRc = r at *
            repeat' (first
 | (apply Awp.sreg; (case hn => (simp only [List.length_cons, List.length_nil, Nat.reduceAdd] <;> rfl)))
 | (apply Awp.sdraw; (case hn => (simp only [List.length_cons, List.length_nil, Nat.reduceAdd] <;> rfl)))
 | (refine st_nil ?_)
 | (apply st_a; (case hc => rfl); (case he => (simp only [go_sem, *] <;> rfl)); (case hu => (simp only [updL_nil, updL_cons] <;> rfl)); (case hp => first | trivial))
 | (apply Awp.reg; (case hn => (simp only [List.length_cons, List.length_nil, Nat.reduceAdd] <;> rfl)))
 | (refine Awp.skip ?_; try simp only [go_sem, *])
 | (refine Awp.exit ?_; try simp only [go_sem, *])
 | (apply Awp.cond; (case hc => (simp only [go_sem, *] <;> rfl)); all_goals (intro hg; (try simp only [Bool.not_true, Bool.not_false, reduceCtorEq] at hg)))
 | refine Awp.seq ?_
 | (apply sl_a; (case hc => rfl); (case he => (simp only [go_sem, *] <;> rfl)); (case hu => (simp only [updL_nil, updL_cons] <;> rfl)); (case hl => (simp only [List.map_cons, List.map_nil] <;> rfl)); (case hp => first | trivial | omega))
 | (apply sl_c; (case hc => (simp only [go_sem, *] <;> rfl)); (case hl => (simp only [go_sem, *] <;> rfl)); (case hn => (simp only [go_sem, *] <;> rfl)); (case hp => first | exact k2 | (have hXz := k2; simp only [go_sem, *] at hXz; exact hXz)); (case hd => first | exact .inl rfl | exact .inr (.v _) | exact .inr .any | exact .inr .nils | (refine .inr ?_; (repeat' (first | exact Dry.v _ | exact Dry.any | exact Dry.nils | exact Dry.slE | refine Dry.agg ?_ | refine Dry.tup ?_ | (refine List.forall_mem_cons.2 (And.intro ?_ ?_)) | (intro cQ hQ; cases hQ; done))); done)); (case hm => first | decide | (simp; done)))
 | (refine sl_nil (And.intro (by first | exact drawOk_of (by decide +kernel) | (simp only [List.map_cons, List.map_nil]; exact drawOk_of (by decide +kernel)) | decide) ?_)))
            all_goals (refine ⟨i + 1, by omega, by omega, ?_⟩; rw [hst]; clear hst k2; (apply Ghost.mk [(0, 0), (1, 1)] []; (case hdead => rfl); (case hinj => rfl); (case hV => (simp only [go_sem, *]) <;> (repeat' (first | refine And.intro ?_ ?_ | exact View.int (by first | rfl | omega | (simp; done) | (rw [wrap_i64] <;> (try simp only [Int.natCast_add]) <;> omega) | (simp [*]; done)) | exact .bp rfl (by decide)))); (case hB => (simp only [go_sem, *]) <;> (repeat' (first | refine And.intro ?_ ?_ | exact ⟨_, rfl, BView.boxF rfl⟩)))))
      · rw [Bool.true_or] at hst
        clear k1
        repeat' (first
 | (apply Awp.sreg; (case hn => (simp only [List.length_cons, List.length_nil, Nat.reduceAdd] <;> rfl)))
 | (apply Awp.sdraw; (case hn => (simp only [List.length_cons, List.length_nil, Nat.reduceAdd] <;> rfl)))
 | (refine st_nil ?_)
 | (apply st_a; (case hc => rfl); (case he => (simp only [go_sem, *] <;> rfl)); (case hu => (simp only [updL_nil, updL_cons] <;> rfl)); (case hp => first | trivial))
 | (refine Awp.skip ?_; try simp only [go_sem, *])
 | refine Awp.block ?_
 | (apply Awp.cond; (case hc => (simp only [go_sem, *] <;> rfl)); all_goals (intro hg; (try simp only [Bool.not_true, Bool.not_false, reduceCtorEq] at hg)))
 | refine Awp.seq ?_
 | (apply sl_a; (case hc => rfl); (case he => (simp only [go_sem, *] <;> rfl)); (case hu => (simp only [updL_nil, updL_cons] <;> rfl)); (case hl => (simp only [List.map_cons, List.map_nil] <;> rfl)); (case hp => first | trivial))
 | (apply sl_gn; (case hv => (simp only [go_sem, *] <;> rfl)); (case hbw => rfl))
 | (refine sl_nil (And.intro (by first | exact drawOk_of (by decide +kernel) | (simp only [List.map_cons, List.map_nil]; exact drawOk_of (by decide +kernel)) | decide) ?_)))
        refine Awp.loop (fun k : Nat => k ≤ M.length) 150 (fun k => mkS [(2, .bp 0 0), (3, .bp 1 0), (5, .sl (rcs M)), (6, .v (.bool true)), (7, .v (.int .i64 i)), (8, .v (.int .i64 k))] [(0, .box [.v (.int .i64 x.len), .v (.int .i64 x.wid), .sl (rcs x.tk), .v (.int .i64 x.gap)]), (1, .box y.cells)]) (fun k => M.length - k) 0 (by omega) ?_ ?_
        · clear hst k2 hsep kv
          (apply Ghost.mk [(0, 0), (1, 1)] []; (case hdead => rfl); (case hinj => rfl); (case hV => (simp only [go_sem, *]) <;> (repeat' (first | refine And.intro ?_ ?_ | exact View.int (by first | rfl | omega | (simp; done) | (rw [wrap_i64] <;> (try simp only [Int.natCast_add]) <;> omega) | (simp [*]; done)) | exact .bp rfl (by decide)))); (case hB => (simp only [go_sem, *]) <;> (repeat' (first | refine And.intro ?_ ?_ | exact ⟨_, rfl, BView.boxF rfl⟩))))
        · intro k hk
          by_cases hlk : k < M.length
          · have hlk' : (k : Int) < M.length := by omega
            have hatk := rcs_at M k hlk
            have hzk : ((M.getD k zeroRc).cells).length = 4 := rfl
            by_cases hki : k = i
            · have hnk : ((k : Int) != (i : Int)) = false := by rw [hki]; simp
              clear hst k2 hsep kv hki
              repeat' (first
 | (apply Awp.sreg; (case hn => (simp only [List.length_cons, List.length_nil, Nat.reduceAdd] <;> rfl)))
 | (apply Awp.sdraw; (case hn => (simp only [List.length_cons, List.length_nil, Nat.reduceAdd] <;> rfl)))
 | (refine st_nil ?_)
 | (apply st_a; (case hc => rfl); (case he => (simp only [go_sem, *] <;> rfl)); (case hu => (simp only [updL_nil, updL_cons] <;> rfl)); (case hp => first | trivial))
 | (apply Awp.reg; (case hn => (simp only [List.length_cons, List.length_nil, Nat.reduceAdd] <;> rfl)))
 | (refine Awp.skip ?_; try simp only [go_sem, *])
 | refine Awp.block ?_
 | (apply Awp.cond; (case hc => (simp only [go_sem, *] <;> rfl)); all_goals (intro hg; (try simp only [Bool.not_true, Bool.not_false, reduceCtorEq] at hg)))
 | refine Awp.seq ?_
 | (apply sl_a; (case hc => rfl); (case he => (simp only [go_sem, *] <;> rfl)); (case hu => (simp only [updL_nil, updL_cons] <;> rfl)); (case hl => (simp only [List.map_cons, List.map_nil] <;> rfl)); (case hp => first | trivial))
 | (apply sl_gn; (case hv => (simp only [go_sem, *] <;> rfl)); (case hbw => rfl))
 | (refine sl_nil (And.intro (by first | exact drawOk_of (by decide +kernel) | (simp only [List.map_cons, List.map_nil]; exact drawOk_of (by decide +kernel)) | decide) ?_)))
              all_goals (refine ⟨k + 1, by omega, by omega, ?_⟩; (apply Ghost.mk [(0, 0), (1, 1)] []; (case hdead => rfl); (case hinj => rfl); (case hV => (simp only [go_sem, *]) <;> (repeat' (first | refine And.intro ?_ ?_ | exact View.int (by first | rfl | omega | (simp; done) | (rw [wrap_i64] <;> (try simp only [Int.natCast_add]) <;> omega) | (simp [*]; done)) | exact .bp rfl (by decide)))); (case hB => (simp only [go_sem, *]) <;> (repeat' (first | refine And.intro ?_ ?_ | exact ⟨_, rfl, BView.boxF rfl⟩)))))
            · have hnk : ((k : Int) != (i : Int)) = true := by rw [bne_iff_ne]; omega
              have kk := kv i k
              rw [hsep k hlk hki] at kk
              clear hst k2 hsep kv hki
              generalize M.getD k zeroRc = z at *
              generalize M.getD i zeroRc = r at *
              repeat' (first
 | (apply Awp.sreg; (case hn => (simp only [List.length_cons, List.length_nil, Nat.reduceAdd] <;> rfl)))
 | (apply Awp.sdraw; (case hn => (simp only [List.length_cons, List.length_nil, Nat.reduceAdd] <;> rfl)))
 | (refine st_nil ?_)
 | (apply st_a; (case hc => rfl); (case he => (simp only [go_sem, *] <;> rfl)); (case hu => (simp only [updL_nil, updL_cons] <;> rfl)); (case hp => first | trivial))
 | (apply Awp.reg; (case hn => (simp only [List.length_cons, List.length_nil, Nat.reduceAdd] <;> rfl)))
 | (refine Awp.skip ?_; try simp only [go_sem, *])
 | refine Awp.block ?_
 | (apply Awp.cond; (case hc => (simp only [go_sem, *] <;> rfl)); all_goals (intro hg; (try simp only [Bool.not_true, Bool.not_false, reduceCtorEq] at hg)))
 | refine Awp.seq ?_
 | (apply sl_a; (case hc => rfl); (case he => (simp only [go_sem, *] <;> rfl)); (case hu => (simp only [updL_nil, updL_cons] <;> rfl)); (case hl => (simp only [List.map_cons, List.map_nil] <;> rfl)); (case hp => first | trivial))
 | (apply sl_ga; (case hb => rfl); (case hv => (simp only [go_sem, *] <;> rfl)); (case he => (simp only [go_sem, *] <;> rfl)); (case hu => (simp only [updL_nil, updL_cons] <;> rfl)); (case hl => (simp only [List.map_cons, List.map_nil] <;> rfl)); (case hp => first | trivial | omega))
 | (apply sl_cg; (case hop => rfl); (case hv => (simp only [go_sem, *] <;> rfl)); (case hc => (simp only [go_sem, *] <;> rfl)); (case hl => (simp only [go_sem, *] <;> rfl)); (case hn => (simp only [go_sem, *] <;> rfl)); (case hp => first | exact kk | (have hXz := kk; simp only [go_sem, *] at hXz; exact hXz)); (case hd => first | exact .inl rfl | exact .inr (.v _) | exact .inr .any | exact .inr .nils | (refine .inr ?_; (repeat' (first | exact Dry.v _ | exact Dry.any | exact Dry.nils | exact Dry.slE | refine Dry.agg ?_ | refine Dry.tup ?_ | (refine List.forall_mem_cons.2 (And.intro ?_ ?_)) | (intro cQ hQ; cases hQ; done))); done)); (case hm => first | decide | (simp; done)))
 | (refine sl_nil (And.intro (by first | exact drawOk_of (by decide +kernel) | (simp only [List.map_cons, List.map_nil]; exact drawOk_of (by decide +kernel)) | decide) ?_)))
              all_goals (refine ⟨k + 1, by omega, by omega, ?_⟩; clear kk; (apply Ghost.mk [(0, 0), (1, 1)] []; (case hdead => rfl); (case hinj => rfl); (case hV => (simp only [go_sem, *]) <;> (repeat' (first | refine And.intro ?_ ?_ | exact View.int (by first | rfl | omega | (simp; done) | (rw [wrap_i64] <;> (try simp only [Int.natCast_add]) <;> omega) | (simp [*]; done)) | exact .bp rfl (by decide)))); (case hB => (simp only [go_sem, *]) <;> (repeat' (first | refine And.intro ?_ ?_ | exact ⟨_, rfl, BView.boxF rfl⟩)))))
          · have hlk' : ¬ (k : Int) < M.length := by omega
            clear hsep kv
            generalize M.getD i zeroRc = r at *
            repeat' (first
 | (apply Awp.sreg; (case hn => (simp only [List.length_cons, List.length_nil, Nat.reduceAdd] <;> rfl)))
 | (apply Awp.sdraw; (case hn => (simp only [List.length_cons, List.length_nil, Nat.reduceAdd] <;> rfl)))
 | (refine st_nil ?_)
 | (apply st_a; (case hc => rfl); (case he => (simp only [go_sem, *] <;> rfl)); (case hu => (simp only [updL_nil, updL_cons] <;> rfl)); (case hp => first | trivial))
 | (apply Awp.reg; (case hn => (simp only [List.length_cons, List.length_nil, Nat.reduceAdd] <;> rfl)))
 | (refine Awp.skip ?_; try simp only [go_sem, *])
 | (refine Awp.exit ?_; try simp only [go_sem, *])
 | (apply Awp.cond; (case hc => (simp only [go_sem, *] <;> rfl)); all_goals (intro hg; (try simp only [Bool.not_true, Bool.not_false, reduceCtorEq] at hg)))
 | refine Awp.seq ?_
 | (apply sl_a; (case hc => rfl); (case he => (simp only [go_sem, *] <;> rfl)); (case hu => (simp only [updL_nil, updL_cons] <;> rfl)); (case hl => (simp only [List.map_cons, List.map_nil] <;> rfl)); (case hp => first | trivial | omega))
 | (apply sl_c; (case hc => (simp only [go_sem, *] <;> rfl)); (case hl => (simp only [go_sem, *] <;> rfl)); (case hn => (simp only [go_sem, *] <;> rfl)); (case hp => first | exact k2 | (have hXz := k2; simp only [go_sem, *] at hXz; exact hXz)); (case hd => first | exact .inl rfl | exact .inr (.v _) | exact .inr .any | exact .inr .nils | (refine .inr ?_; (repeat' (first | exact Dry.v _ | exact Dry.any | exact Dry.nils | exact Dry.slE | refine Dry.agg ?_ | refine Dry.tup ?_ | (refine List.forall_mem_cons.2 (And.intro ?_ ?_)) | (intro cQ hQ; cases hQ; done))); done)); (case hm => first | decide | (simp; done)))
 | (refine sl_nil (And.intro (by first | exact drawOk_of (by decide +kernel) | (simp only [List.map_cons, List.map_nil]; exact drawOk_of (by decide +kernel)) | decide) ?_)))
            all_goals (refine ⟨i + 1, by omega, by omega, ?_⟩; rw [hst]; clear hst k2; (apply Ghost.mk [(0, 0), (1, 1)] []; (case hdead => rfl); (case hinj => rfl); (case hV => (simp only [go_sem, *]) <;> (repeat' (first | refine And.intro ?_ ?_ | exact View.int (by first | rfl | omega | (simp; done) | (rw [wrap_i64] <;> (try simp only [Int.natCast_add]) <;> omega) | (simp [*]; done)) | exact .bp rfl (by decide)))); (case hB => (simp only [go_sem, *]) <;> (repeat' (first | refine And.intro ?_ ?_ | exact ⟨_, rfl, BView.boxF rfl⟩)))))
    · have hlt' : ¬ (i : Int) < M.length := by omega
      have e1 : M.take i = M := List.take_of_length_le (by omega)
      rw [e1]
      clear e1 kw kv hlt hi
      by_cases h0 : M = []
      · subst h0
        have hz0 : (((0 : Nat) : Int) == 0) = true := rfl
        have hl0 : ¬ ((i : Int) < ((0 : Nat) : Int)) := by omega
        have e2 : rcs [] = [] := rfl
        rw [show ([] : List Rc).isEmpty = true from rfl, if_pos rfl] at c2
        unfold zeroRc at c2
        clear hL kf hfl
        repeat' (first
 | (apply Awp.sreg; (case hn => (simp only [List.length_cons, List.length_nil, Nat.reduceAdd] <;> rfl)))
 | (refine st_nil ?_)
 | (apply st_a; (case hc => rfl); (case he => (simp only [go_sem, *] <;> rfl)); (case hu => (simp only [updL_nil, updL_cons] <;> rfl)); (case hp => first | trivial))
 | (apply st_c; (case hc => (simp only [go_sem, *] <;> rfl)); (case hl => (simp only [go_sem, *] <;> rfl)); (case hn => (simp only [go_sem, *] <;> rfl)); (case hp => first | exact c2 | (have hXz := c2; simp only [go_sem, *] at hXz; exact hXz)))
 | (apply st_mc; (case hop => rfl); (case hg => (simp only [go_sem, *] <;> rfl)); (case hc => (intro hQz; (try simp only [wantB_t, wantB_f, Bool.and_eq_true, Bool.not_eq_true', Bool.not_true, Bool.not_false, and_true, true_and] at hQz); simp only [go_sem, *] <;> rfl)); (case hl => (intro hQz; (try simp only [wantB_t, wantB_f, Bool.and_eq_true, Bool.not_eq_true', Bool.not_true, Bool.not_false, and_true, true_and] at hQz); simp only [go_sem, *] <;> rfl)); (case hn => (intro hQz; (try simp only [wantB_t, wantB_f, Bool.and_eq_true, Bool.not_eq_true', Bool.not_true, Bool.not_false, and_true, true_and] at hQz); simp only [go_sem, *] <;> rfl)); (case hp => intro hQz; first | exact aw | (have hXz := aw; simp only [go_sem, *] at hXz; exact hXz)))
 | (refine Awp.ret ?_; try simp only [go_sem, *])
 | (refine Awp.exit ?_; try simp only [go_sem, *])
 | (apply Awp.cond; (case hc => (simp only [go_sem, *] <;> rfl)); all_goals (intro hg; (try simp only [Bool.not_true, Bool.not_false, reduceCtorEq] at hg)))
 | refine Awp.seq ?_)
        all_goals repeat' (first | exact Lower.bool (by first | rfl | (simp only [true_and, Bool.true_and, Bool.false_and, Bool.and_true, Bool.and_false, Bool.true_or, Bool.false_or, reduceIte, Bool.false_eq_true, *]; done) | (simp only [true_and, reduceIte, Bool.false_eq_true, *] <;> rfl) | (simp [true_and]; done) | (simp_all [true_and]; done) | omega))
      · have hpos := List.length_pos_iff.2 h0
        have hne : ((M.length : Int) == 0) = false := by rw [beq_eq_false_iff_ne]; omega
        have k2 := kf h0 y
        have hall := hL.all h0 y
        clear kf hL c2
        cases hA : M.any (withinB y)
        · have hF : freeR x.len x.wid x.tk x.gap y = false := by
            rw [Bool.eq_false_iff]
            intro h
            rw [hall h] at hA
            cases hA
          rw [hF] at k2
          clear hall hA hF h0
          repeat' (first
 | (apply Awp.sreg; (case hn => (simp only [List.length_cons, List.length_nil, Nat.reduceAdd] <;> rfl)))
 | (refine st_nil ?_)
 | (apply st_a; (case hc => rfl); (case he => (simp only [go_sem, *] <;> rfl)); (case hu => (simp only [updL_nil, updL_cons] <;> rfl)); (case hp => first | trivial))
 | (apply st_m; (case hc => rfl); (case hg => (simp only [go_sem, *] <;> rfl)); (case he => (intro hQz; (try simp only [wantB_t, wantB_f, Bool.and_eq_true, Bool.not_eq_true', Bool.not_true, Bool.not_false, and_true, true_and] at hQz); simp only [go_sem, *] <;> rfl)); (case hp => (intro hQz; (try simp only [wantB_t, wantB_f, Bool.and_eq_true, Bool.not_eq_true', Bool.or_eq_false_iff, decide_eq_true_eq, decide_eq_false_iff_not, beq_iff_eq, beq_eq_false_iff_ne, bne_iff_ne, bne_eq_false_iff_eq, Int.not_lt, Int.not_le, Int.ofNat_lt, Int.ofNat_le] at hQz); first | trivial)))
 | (apply st_mc; (case hop => rfl); (case hg => (simp only [go_sem, *] <;> rfl)); (case hc => (intro hQz; (try simp only [wantB_t, wantB_f, Bool.and_eq_true, Bool.not_eq_true', Bool.not_true, Bool.not_false, and_true, true_and] at hQz); simp only [go_sem, *] <;> rfl)); (case hl => (intro hQz; (try simp only [wantB_t, wantB_f, Bool.and_eq_true, Bool.not_eq_true', Bool.not_true, Bool.not_false, and_true, true_and] at hQz); simp only [go_sem, *] <;> rfl)); (case hn => (intro hQz; (try simp only [wantB_t, wantB_f, Bool.and_eq_true, Bool.not_eq_true', Bool.not_true, Bool.not_false, and_true, true_and] at hQz); simp only [go_sem, *] <;> rfl)); (case hp => intro hQz; first | exact k2 | (have hXz := k2; simp only [go_sem, *] at hXz; exact hXz)))
 | (apply st_mc; (case hop => rfl); (case hg => (simp only [go_sem, *] <;> rfl)); (case hc => (intro hQz; (try simp only [wantB_t, wantB_f, Bool.and_eq_true, Bool.not_eq_true', Bool.not_true, Bool.not_false, and_true, true_and] at hQz); simp only [go_sem, *] <;> rfl)); (case hl => (intro hQz; (try simp only [wantB_t, wantB_f, Bool.and_eq_true, Bool.not_eq_true', Bool.not_true, Bool.not_false, and_true, true_and] at hQz); simp only [go_sem, *] <;> rfl)); (case hn => (intro hQz; (try simp only [wantB_t, wantB_f, Bool.and_eq_true, Bool.not_eq_true', Bool.not_true, Bool.not_false, and_true, true_and] at hQz); simp only [go_sem, *] <;> rfl)); (case hp => intro hQz; first | exact aw | (have hXz := aw; simp only [go_sem, *] at hXz; exact hXz)))
 | (refine Awp.ret ?_; try simp only [go_sem, *])
 | (refine Awp.skip ?_; try simp only [go_sem, *])
 | (refine Awp.exit ?_; try simp only [go_sem, *])
 | (apply Awp.cond; (case hc => (simp only [go_sem, *] <;> rfl)); all_goals (intro hg; (try simp only [Bool.not_true, Bool.not_false, reduceCtorEq] at hg)))
 | refine Awp.seq ?_)
          all_goals repeat' (first | exact Lower.bool (by first | rfl | (simp only [true_and, Bool.true_and, Bool.false_and, Bool.and_true, Bool.and_false, Bool.true_or, Bool.false_or, reduceIte, Bool.false_eq_true, *]; done) | (simp only [true_and, reduceIte, Bool.false_eq_true, *] <;> rfl) | (simp [true_and]; done) | (simp_all [true_and]; done) | omega))
        · clear hall hA k2 h0
          repeat' (first
 | (apply Awp.sreg; (case hn => (simp only [List.length_cons, List.length_nil, Nat.reduceAdd] <;> rfl)))
 | (refine st_nil ?_)
 | (apply st_a; (case hc => rfl); (case he => (simp only [go_sem, *] <;> rfl)); (case hu => (simp only [updL_nil, updL_cons] <;> rfl)); (case hp => first | trivial))
 | (apply st_m; (case hc => rfl); (case hg => (simp only [go_sem, *] <;> rfl)); (case he => (intro hQz; (try simp only [wantB_t, wantB_f, Bool.and_eq_true, Bool.not_eq_true', Bool.not_true, Bool.not_false, and_true, true_and] at hQz); simp only [go_sem, *] <;> rfl)); (case hp => (intro hQz; (try simp only [wantB_t, wantB_f, Bool.and_eq_true, Bool.not_eq_true', Bool.or_eq_false_iff, decide_eq_true_eq, decide_eq_false_iff_not, beq_iff_eq, beq_eq_false_iff_ne, bne_iff_ne, bne_eq_false_iff_eq, Int.not_lt, Int.not_le, Int.ofNat_lt, Int.ofNat_le] at hQz); first | trivial)))
 | (apply st_mc; (case hop => rfl); (case hg => (simp only [go_sem, *] <;> rfl)); (case hc => (intro hQz; (try simp only [wantB_t, wantB_f, Bool.and_eq_true, Bool.not_eq_true', Bool.not_true, Bool.not_false, and_true, true_and] at hQz); simp only [go_sem, *] <;> rfl)); (case hl => (intro hQz; (try simp only [wantB_t, wantB_f, Bool.and_eq_true, Bool.not_eq_true', Bool.not_true, Bool.not_false, and_true, true_and] at hQz); simp only [go_sem, *] <;> rfl)); (case hn => (intro hQz; (try simp only [wantB_t, wantB_f, Bool.and_eq_true, Bool.not_eq_true', Bool.not_true, Bool.not_false, and_true, true_and] at hQz); simp only [go_sem, *] <;> rfl)); (case hp => intro hQz; first | exact aw | (have hXz := aw; simp only [go_sem, *] at hXz; exact hXz)))
 | (apply st_g; (case hv => (simp only [go_sem, *] <;> rfl)); all_goals (intro hg; (try simp only [Bool.not_true, Bool.not_false, reduceCtorEq] at hg)))
 | (refine Awp.ret ?_; try simp only [go_sem, *])
 | (refine Awp.skip ?_; try simp only [go_sem, *])
 | (refine Awp.exit ?_; try simp only [go_sem, *])
 | (apply Awp.cond; (case hc => (simp only [go_sem, *] <;> rfl)); all_goals (intro hg; (try simp only [Bool.not_true, Bool.not_false, reduceCtorEq] at hg)))
 | refine Awp.seq ?_)
          all_goals repeat' (first | exact Lower.bool (by first | rfl | (simp only [true_and, Bool.true_and, Bool.false_and, Bool.and_true, Bool.and_false, Bool.true_or, Bool.false_or, reduceIte, Bool.false_eq_true, *]; done) | (simp only [true_and, reduceIte, Bool.false_eq_true, *] <;> rfl) | (simp [true_and]; done) | (simp_all [true_and]; done) | omega))
end Go.Proofs
end
section
set_option linter.unusedVariables false
set_option linter.unusedSimpArgs false
namespace Go.Proofs
open Go Go.Ab
set_option maxHeartbeats 8000000
set_option maxRecDepth 100000
attribute [local irreducible] Awp aops aopsL Go.Ab.Pure PureOwn
theorem largest_best {len wid : Int} {l : List Rc} {g : Int} (h : (largestE len wid l g).2 = true) : rightB len wid l g = true ∧ freeR len wid l g (largestE len wid l g).1 = true ∧ ∀ y, freeR len wid l g y = true → areaZ y ≤ areaZ (largestE len wid l g).1 := by
  unfold largestE at *
  cases hE : (freesE len wid l g).isEmpty
  · rw [if_neg (by decide)]
    cases hR : rightB len wid l g
    · unfold freesE at hE
      rw [hR] at hE
      cases hE
    · obtain ⟨hT, hlen, hwid⟩ := good_of hR
      have e : freesE len wid l g = maxL len wid l g := by unfold freesE; rw [hR]; rfl
      rw [e] at hE ⊢
      have h0 : maxL len wid l g ≠ [] := fun e => by rw [e] at hE; cases hE
      exact ⟨rfl, max_free ((maxL_mem len wid l g (by omega) (by omega) _).1 (best_mem h0)), fun y hy => (best_free (by omega) (by omega) hy).2⟩
  · rw [hE, if_pos rfl] at h
    cases h
theorem largest_has {len wid : Int} {l : List Rc} {g : Int} (hR : rightB len wid l g = true) {y : Rc} (hy : freeR len wid l g y = true) : (largestE len wid l g).2 = true ∧ areaZ y ≤ areaZ (largestE len wid l g).1 := by
  obtain ⟨hT, hlen, hwid⟩ := good_of hR
  have e : freesE len wid l g = maxL len wid l g := by unfold freesE; rw [hR]; rfl
  have h := best_free (show 0 < len by omega) (show 0 < wid by omega) hy
  unfold largestE
  rw [e]
  cases hE : (maxL len wid l g).isEmpty
  · rw [if_neg (by decide)]
    exact ⟨rfl, h.2⟩
  · exact absurd (List.isEmpty_iff.1 hE) h.1
theorem largest_no {len wid : Int} {l : List Rc} {g : Int} (h : (largestE len wid l g).2 = false) : freesE len wid l g = [] ∧ (largestE len wid l g).1 = zeroRc := by
  unfold largestE at *
  cases hE : (freesE len wid l g).isEmpty
  · rw [hE, if_neg (by decide)] at h
    cases h
  · rw [if_pos rfl]
    exact ⟨List.isEmpty_iff.1 hE, rfl⟩
theorem free_small {len wid : Int} {l : List Rc} {g : Int} {y : Rc} (hR : rightB len wid l g = true) (hy : freeR len wid l g y = true) : Small y := by
  obtain ⟨hT, hlen, hwid⟩ := good_of hR
  obtain ⟨hp, _⟩ := (free_iff _ _ _ _ _).1 hy
  have := hp.ac; have := hp.bd; have := hp.a0; have := hp.b0; have := hp.cl; have := hp.dw
  exact ⟨by omega, by omega, by omega, by omega⟩
theorem greatest_body (x : Plate) (y : Rc) : Pure Try.prog 6 [x.av, y.av] (.v (.bool true)) := by
  have aw := awake_ok
  by_cases h6 : x.tk.length ≤ 6
  case neg =>
    have h6' : decide ((6 : Int) < x.tk.length) = true := decide_eq_true (by omega)
    clear h6
    refine fn_pure Try.F6 (Nat.le_of_ble_eq_true rfl) ?_; unfold Try.ac6
    repeat' (first
 | (apply Awp.sreg; (case hn => (simp only [List.length_cons, List.length_nil, Nat.reduceAdd] <;> rfl)))
 | (refine st_nil ?_)
 | (apply st_a; (case hc => rfl); (case he => (simp only [go_sem, *] <;> rfl)); (case hu => (simp only [updL_nil, updL_cons] <;> rfl)); (case hp => first | trivial))
 | (apply st_c; (case hc => (simp only [go_sem, *] <;> rfl)); (case hl => (simp only [go_sem, *] <;> rfl)); (case hn => (simp only [go_sem, *] <;> rfl)); (case hp => first | exact aw | (have hXz := aw; simp only [go_sem, *] at hXz; exact hXz)))
 | (refine Awp.ret ?_; try simp only [go_sem, *])
 | (apply Awp.cond; (case hc => (simp only [go_sem, *] <;> rfl)); all_goals (intro hg; (try simp only [Bool.not_true, Bool.not_false, reduceCtorEq] at hg)))
 | refine Awp.seq ?_)
    all_goals repeat' (first | exact Lower.bool (by first | rfl | (simp only [true_and, Bool.true_and, Bool.false_and, Bool.and_true, Bool.and_false, Bool.true_or, Bool.false_or, reduceIte, Bool.false_eq_true, *]; done) | (simp only [true_and, reduceIte, Bool.false_eq_true, *] <;> rfl) | (simp [true_and]; done) | (simp_all [true_and]; done) | omega))
  have h6' : decide ((6 : Int) < x.tk.length) = false := decide_eq_false (by omega)
  have c1 := frees_ok x.len x.wid x.tk x.gap
  have c2 := largest_ok x.len x.wid x.tk x.gap
  cases hk : (largestE x.len x.wid x.tk x.gap).2
  · obtain ⟨e1, e2⟩ := largest_no hk
    rw [hk, e2] at c2
    rw [e1] at c1
    have e3 : rcs [] = [] := rfl
    have hz0 : (((0 : Nat) : Int) == 0) = true := rfl
    rw [e3] at c1
    unfold zeroRc at c2
    clear hk e1 e2 e3 h6
    refine fn_pure Try.F6 (Nat.le_of_ble_eq_true rfl) ?_; unfold Try.ac6
    repeat' (first
 | (apply Awp.sreg; (case hn => (simp only [List.length_cons, List.length_nil, Nat.reduceAdd] <;> rfl)))
 | (refine st_nil ?_)
 | (apply st_a; (case hc => rfl); (case he => (simp only [go_sem, *] <;> rfl)); (case hu => (simp only [updL_nil, updL_cons] <;> rfl)); (case hp => first | trivial))
 | (apply st_m; (case hc => rfl); (case hg => (simp only [go_sem, *] <;> rfl)); (case he => (intro hQz; (try simp only [wantB_t, wantB_f, Bool.and_eq_true, Bool.not_eq_true', Bool.not_true, Bool.not_false, and_true, true_and] at hQz); simp only [go_sem, *] <;> rfl)); (case hp => (intro hQz; (try simp only [wantB_t, wantB_f, Bool.and_eq_true, Bool.not_eq_true', Bool.or_eq_false_iff, decide_eq_true_eq, decide_eq_false_iff_not, beq_iff_eq, beq_eq_false_iff_ne, bne_iff_ne, bne_eq_false_iff_eq, Int.not_lt, Int.not_le, Int.ofNat_lt, Int.ofNat_le] at hQz); first | trivial)))
 | (apply st_c; (case hc => (simp only [go_sem, *] <;> rfl)); (case hl => (simp only [go_sem, *] <;> rfl)); (case hn => (simp only [go_sem, *] <;> rfl)); (case hp => first | exact c1 | (have hXz := c1; simp only [go_sem, *] at hXz; exact hXz)))
 | (apply st_c; (case hc => (simp only [go_sem, *] <;> rfl)); (case hl => (simp only [go_sem, *] <;> rfl)); (case hn => (simp only [go_sem, *] <;> rfl)); (case hp => first | exact c2 | (have hXz := c2; simp only [go_sem, *] at hXz; exact hXz)))
 | (apply st_mc; (case hop => rfl); (case hg => (simp only [go_sem, *] <;> rfl)); (case hc => (intro hQz; (try simp only [wantB_t, wantB_f, Bool.and_eq_true, Bool.not_eq_true', Bool.not_true, Bool.not_false, and_true, true_and] at hQz); simp only [go_sem, *] <;> rfl)); (case hl => (intro hQz; (try simp only [wantB_t, wantB_f, Bool.and_eq_true, Bool.not_eq_true', Bool.not_true, Bool.not_false, and_true, true_and] at hQz); simp only [go_sem, *] <;> rfl)); (case hn => (intro hQz; (try simp only [wantB_t, wantB_f, Bool.and_eq_true, Bool.not_eq_true', Bool.not_true, Bool.not_false, and_true, true_and] at hQz); simp only [go_sem, *] <;> rfl)); (case hp => intro hQz; first | exact aw | (have hXz := aw; simp only [go_sem, *] at hXz; exact hXz)))
 | (refine Awp.ret ?_; try simp only [go_sem, *])
 | (refine Awp.skip ?_; try simp only [go_sem, *])
 | (apply Awp.cond; (case hc => (simp only [go_sem, *] <;> rfl)); all_goals (intro hg; (try simp only [Bool.not_true, Bool.not_false, reduceCtorEq] at hg)))
 | refine Awp.seq ?_)
    all_goals repeat' (first | exact Lower.bool (by first | rfl | (simp only [true_and, Bool.true_and, Bool.false_and, Bool.and_true, Bool.and_false, Bool.true_or, Bool.false_or, reduceIte, Bool.false_eq_true, *]; done) | (simp only [true_and, reduceIte, Bool.false_eq_true, *] <;> rfl) | (simp [true_and]; done) | (simp_all [true_and]; done) | omega))
  · obtain ⟨hR, hf, hle⟩ := largest_best hk
    have hsm := free_small hR hf
    have k1 := rfree_ok x.len x.wid x.tk x.gap (largestE x.len x.wid x.tk x.gap).1 (good_of hR).1
    have k2 := rfree_ok x.len x.wid x.tk x.gap y (good_of hR).1
    have a1 := rarea_ok _ hsm
    rw [hf] at k1
    rw [hk] at c2
    cases hy : freeR x.len x.wid x.tk x.gap y
    · rw [hy] at k2
      clear hk hR hf hle hsm c1 a1 hy h6
      generalize (largestE x.len x.wid x.tk x.gap).1 = r at *
      refine fn_pure Try.F6 (Nat.le_of_ble_eq_true rfl) ?_; unfold Try.ac6
      repeat' (first
 | (apply Awp.sreg; (case hn => (simp only [List.length_cons, List.length_nil, Nat.reduceAdd] <;> rfl)))
 | (apply Awp.sdraw; (case hn => (simp only [List.length_cons, List.length_nil, Nat.reduceAdd] <;> rfl)))
 | (refine st_nil ?_)
 | (apply st_a; (case hc => rfl); (case he => (simp only [go_sem, *] <;> rfl)); (case hu => (simp only [updL_nil, updL_cons] <;> rfl)); (case hp => first | trivial))
 | (apply st_c; (case hc => (simp only [go_sem, *] <;> rfl)); (case hl => (simp only [go_sem, *] <;> rfl)); (case hn => (simp only [go_sem, *] <;> rfl)); (case hp => first | exact c2 | (have hXz := c2; simp only [go_sem, *] at hXz; exact hXz)))
 | (apply st_c; (case hc => (simp only [go_sem, *] <;> rfl)); (case hl => (simp only [go_sem, *] <;> rfl)); (case hn => (simp only [go_sem, *] <;> rfl)); (case hp => first | exact k1 | (have hXz := k1; simp only [go_sem, *] at hXz; exact hXz)))
 | (refine Awp.ret ?_; try simp only [go_sem, *])
 | (refine Awp.skip ?_; try simp only [go_sem, *])
 | (apply Awp.cond; (case hc => (simp only [go_sem, *] <;> rfl)); all_goals (intro hg; (try simp only [Bool.not_true, Bool.not_false, reduceCtorEq] at hg)))
 | refine Awp.seq ?_
 | (apply sl_a; (case hc => rfl); (case he => (simp only [go_sem, *] <;> rfl)); (case hu => (simp only [updL_nil, updL_cons] <;> rfl)); (case hl => (simp only [List.map_cons, List.map_nil] <;> rfl)); (case hp => first | trivial))
 | (apply sl_gn; (case hv => (simp only [go_sem, *] <;> rfl)); (case hbw => rfl))
 | (apply sl_c; (case hc => (simp only [go_sem, *] <;> rfl)); (case hl => (simp only [go_sem, *] <;> rfl)); (case hn => (simp only [go_sem, *] <;> rfl)); (case hp => first | exact k2 | (have hXz := k2; simp only [go_sem, *] at hXz; exact hXz)); (case hd => first | exact .inl rfl | exact .inr (.v _) | exact .inr .any | exact .inr .nils | (refine .inr ?_; (repeat' (first | exact Dry.v _ | exact Dry.any | exact Dry.nils | exact Dry.slE | refine Dry.agg ?_ | refine Dry.tup ?_ | (refine List.forall_mem_cons.2 (And.intro ?_ ?_)) | (intro cQ hQ; cases hQ; done))); done)); (case hm => first | decide | (simp; done)))
 | (apply sl_cg; (case hop => rfl); (case hv => (simp only [go_sem, *] <;> rfl)); (case hc => (simp only [go_sem, *] <;> rfl)); (case hl => (simp only [go_sem, *] <;> rfl)); (case hn => (simp only [go_sem, *] <;> rfl)); (case hp => first | exact aw | (have hXz := aw; simp only [go_sem, *] at hXz; exact hXz)); (case hd => first | exact .inl rfl | exact .inr (.v _) | exact .inr .any | exact .inr .nils | (refine .inr ?_; (repeat' (first | exact Dry.v _ | exact Dry.any | exact Dry.nils | exact Dry.slE | refine Dry.agg ?_ | refine Dry.tup ?_ | (refine List.forall_mem_cons.2 (And.intro ?_ ?_)) | (intro cQ hQ; cases hQ; done))); done)); (case hm => first | decide | (simp; done)))
 | (refine sl_nil (And.intro (by first | exact drawOk_of (by decide +kernel) | (simp only [List.map_cons, List.map_nil]; exact drawOk_of (by decide +kernel)) | decide) ?_)))
      all_goals repeat' (first | exact Lower.bool (by first | rfl | (simp only [true_and, Bool.true_and, Bool.false_and, Bool.and_true, Bool.and_false, Bool.true_or, Bool.false_or, reduceIte, Bool.false_eq_true, *]; done) | (simp only [true_and, reduceIte, Bool.false_eq_true, *] <;> rfl) | (simp [true_and]; done) | (simp_all [true_and]; done) | omega))
    · rw [hy] at k2
      have a2 := rarea_ok y (free_small hR hy)
      have hle := hle y hy
      clear hk hR hf hsm c1 hy h6
      generalize (largestE x.len x.wid x.tk x.gap).1 = r at *
      generalize areaZ r = A at *
      generalize areaZ y = B at *
      have hd : decide (B ≤ A) = true := decide_eq_true hle
      clear hle
      refine fn_pure Try.F6 (Nat.le_of_ble_eq_true rfl) ?_; unfold Try.ac6
      repeat' (first
 | (apply Awp.sreg; (case hn => (simp only [List.length_cons, List.length_nil, Nat.reduceAdd] <;> rfl)))
 | (apply Awp.sdraw; (case hn => (simp only [List.length_cons, List.length_nil, Nat.reduceAdd] <;> rfl)))
 | (refine st_nil ?_)
 | (apply st_a; (case hc => rfl); (case he => (simp only [go_sem, *] <;> rfl)); (case hu => (simp only [updL_nil, updL_cons] <;> rfl)); (case hp => first | trivial))
 | (apply st_c; (case hc => (simp only [go_sem, *] <;> rfl)); (case hl => (simp only [go_sem, *] <;> rfl)); (case hn => (simp only [go_sem, *] <;> rfl)); (case hp => first | exact c2 | (have hXz := c2; simp only [go_sem, *] at hXz; exact hXz)))
 | (apply st_c; (case hc => (simp only [go_sem, *] <;> rfl)); (case hl => (simp only [go_sem, *] <;> rfl)); (case hn => (simp only [go_sem, *] <;> rfl)); (case hp => first | exact k1 | (have hXz := k1; simp only [go_sem, *] at hXz; exact hXz)))
 | (refine Awp.ret ?_; try simp only [go_sem, *])
 | (refine Awp.skip ?_; try simp only [go_sem, *])
 | (apply Awp.cond; (case hc => (simp only [go_sem, *] <;> rfl)); all_goals (intro hg; (try simp only [Bool.not_true, Bool.not_false, reduceCtorEq] at hg)))
 | refine Awp.seq ?_
 | (apply sl_a; (case hc => rfl); (case he => (simp only [go_sem, *] <;> rfl)); (case hu => (simp only [updL_nil, updL_cons] <;> rfl)); (case hl => (simp only [List.map_cons, List.map_nil] <;> rfl)); (case hp => first | trivial))
 | (apply sl_ga; (case hb => rfl); (case hv => (simp only [go_sem, *] <;> rfl)); (case he => (simp only [go_sem, *] <;> rfl)); (case hu => (simp only [updL_nil, updL_cons] <;> rfl)); (case hl => (simp only [List.map_cons, List.map_nil] <;> rfl)); (case hp => first | trivial))
 | (apply sl_c; (case hc => (simp only [go_sem, *] <;> rfl)); (case hl => (simp only [go_sem, *] <;> rfl)); (case hn => (simp only [go_sem, *] <;> rfl)); (case hp => first | exact k2 | (have hXz := k2; simp only [go_sem, *] at hXz; exact hXz)); (case hd => first | exact .inl rfl | exact .inr (.v _) | exact .inr .any | exact .inr .nils | (refine .inr ?_; (repeat' (first | exact Dry.v _ | exact Dry.any | exact Dry.nils | exact Dry.slE | refine Dry.agg ?_ | refine Dry.tup ?_ | (refine List.forall_mem_cons.2 (And.intro ?_ ?_)) | (intro cQ hQ; cases hQ; done))); done)); (case hm => first | decide | (simp; done)))
 | (apply sl_cg; (case hop => rfl); (case hv => (simp only [go_sem, *] <;> rfl)); (case hc => (simp only [go_sem, *] <;> rfl)); (case hl => (simp only [go_sem, *] <;> rfl)); (case hn => (simp only [go_sem, *] <;> rfl)); (case hp => first | exact a1 | (have hXz := a1; simp only [go_sem, *] at hXz; exact hXz)); (case hd => first | exact .inl rfl | exact .inr (.v _) | exact .inr .any | exact .inr .nils | (refine .inr ?_; (repeat' (first | exact Dry.v _ | exact Dry.any | exact Dry.nils | exact Dry.slE | refine Dry.agg ?_ | refine Dry.tup ?_ | (refine List.forall_mem_cons.2 (And.intro ?_ ?_)) | (intro cQ hQ; cases hQ; done))); done)); (case hm => first | decide | (simp; done)))
 | (apply sl_cg; (case hop => rfl); (case hv => (simp only [go_sem, *] <;> rfl)); (case hc => (simp only [go_sem, *] <;> rfl)); (case hl => (simp only [go_sem, *] <;> rfl)); (case hn => (simp only [go_sem, *] <;> rfl)); (case hp => first | exact a2 | (have hXz := a2; simp only [go_sem, *] at hXz; exact hXz)); (case hd => first | exact .inl rfl | exact .inr (.v _) | exact .inr .any | exact .inr .nils | (refine .inr ?_; (repeat' (first | exact Dry.v _ | exact Dry.any | exact Dry.nils | exact Dry.slE | refine Dry.agg ?_ | refine Dry.tup ?_ | (refine List.forall_mem_cons.2 (And.intro ?_ ?_)) | (intro cQ hQ; cases hQ; done))); done)); (case hm => first | decide | (simp; done)))
 | (apply sl_cg; (case hop => rfl); (case hv => (simp only [go_sem, *] <;> rfl)); (case hc => (simp only [go_sem, *] <;> rfl)); (case hl => (simp only [go_sem, *] <;> rfl)); (case hn => (simp only [go_sem, *] <;> rfl)); (case hp => first | exact aw | (have hXz := aw; simp only [go_sem, *] at hXz; exact hXz)); (case hd => first | exact .inl rfl | exact .inr (.v _) | exact .inr .any | exact .inr .nils | (refine .inr ?_; (repeat' (first | exact Dry.v _ | exact Dry.any | exact Dry.nils | exact Dry.slE | refine Dry.agg ?_ | refine Dry.tup ?_ | (refine List.forall_mem_cons.2 (And.intro ?_ ?_)) | (intro cQ hQ; cases hQ; done))); done)); (case hm => first | decide | (simp; done)))
 | (refine sl_nil (And.intro (by first | exact drawOk_of (by decide +kernel) | (simp only [List.map_cons, List.map_nil]; exact drawOk_of (by decide +kernel)) | decide) ?_)))
      all_goals repeat' (first | exact Lower.bool (by first | rfl | (simp only [true_and, Bool.true_and, Bool.false_and, Bool.and_true, Bool.and_false, Bool.true_or, Bool.false_or, reduceIte, Bool.false_eq_true, *]; done) | (simp only [true_and, reduceIte, Bool.false_eq_true, *] <;> rfl) | (simp [true_and]; done) | (simp_all [true_and]; done) | omega))
theorem maxL_nil {len wid g : Int} (h1 : 0 < len) (h2 : 0 < wid) : maxL len wid [] g = [⟨0, 0, len, wid⟩] := by
  have hw : freeR len wid [] g ⟨0, 0, len, wid⟩ = true := by
    rw [free_iff]
    exact ⟨⟨h1, h2, by simp, by simp, by simp, by simp⟩, fun t ht => by simp [tkE] at ht⟩
  refine asc_ext_of rcLt_irrefl rcLt_trans (maxL_asc len wid [] g h1 h2) (by simp) fun r => ?_
  rw [maxL_mem len wid [] g h1 h2, List.mem_singleton]
  have key : ∀ z, maxB len wid [] g z = true → z = ⟨0, 0, len, wid⟩ := fun z hz => by
    have hs := max_sides hz
    have hn : ∀ p : Rc → Prop, ¬ ∃ t ∈ tkE g [], p t := fun p ⟨t, ht, _⟩ => by simp [tkE] at ht
    obtain ⟨a, b, c, d⟩ := hs
    exact rc_ext (a.resolve_right (hn _)) (b.resolve_right (hn _)) (c.resolve_right (hn _)) (d.resolve_right (hn _))
  constructor
  · exact key r
  · rintro rfl
    obtain ⟨z, hz, _⟩ := max_ex hw
    rw [← key z hz]
    exact hz
theorem frees_nil (len wid g : Int) (hg : 0 ≤ g ∧ g ≤ 500) : freesE len wid [] g = if ((decide (len < 1) || decide (32768 < len)) || decide (wid < 1)) || decide (32768 < wid) then [] else [⟨0, 0, len, wid⟩] := by
  unfold freesE
  have hR : rightB len wid [] g = !(((decide (len < 1) || decide (32768 < len)) || decide (wid < 1)) || decide (32768 < wid)) := by
    unfold rightB headR
    rw [Bool.eq_iff_iff]
    simp
    omega
  rw [hR]
  cases hb : (((decide (len < 1) || decide (32768 < len)) || decide (wid < 1)) || decide (32768 < wid))
  · simp only [Bool.or_eq_false_iff, decide_eq_false_iff_not] at hb
    rw [if_pos (by decide), if_neg (by decide), maxL_nil (by omega) (by omega)]
  · rw [if_neg (by decide), if_pos rfl]
theorem whole_body (len wid g : Int) (hg : 0 ≤ g ∧ g < 65536) : Pure Try.prog 7 [.v (.int .i64 len), .v (.int .i64 wid), .v (.int .u16 g)] (.v (.bool true)) := by
  have aw := awake_ok
  have wg : IntKind.i64.wrap g = g := wrap_i64 (by omega) (by omega)
  have hG : 0 ≤ Int.tmod g 501 ∧ Int.tmod g 501 ≤ 500 := by
    rw [Int.tmod_eq_emod_of_nonneg hg.1]
    omega
  have c1 := frees_ok len wid [] (Int.tmod g 501)
  rw [frees_nil len wid (Int.tmod g 501) hG] at c1
  have e0 : rcs [] = [] := rfl
  cases hb : (((decide (len < 1) || decide (32768 < len)) || decide (wid < 1)) || decide (32768 < wid))
  · rw [hb, if_neg (by decide), e0] at c1
    have c2 := rect_ok 0 0 len wid
    have c3 := same_ok [⟨0, 0, len, wid⟩] (by simp)
    have e1 : rcs [⟨0, 0, len, wid⟩] = [[.v (.int .i64 0), .v (.int .i64 0), .v (.int .i64 len), .v (.int .i64 wid)]] := rfl
    rw [e1] at c1 c3
    clear e0 e1 hg
    simp only [Bool.or_eq_false_iff] at hb
    obtain ⟨⟨⟨b1, b2⟩, b3⟩, b4⟩ := hb
    refine fn_pure Try.F7 (Nat.le_of_ble_eq_true rfl) ?_; unfold Try.ac7
    repeat' (first
 | (apply Awp.sreg; (case hn => (simp only [List.length_cons, List.length_nil, Nat.reduceAdd] <;> rfl)))
 | (refine st_nil ?_)
 | (apply st_a; (case hc => rfl); (case he => (simp only [go_sem, *] <;> rfl)); (case hu => (simp only [updL_nil, updL_cons] <;> rfl)); (case hp => first | trivial | (simp; done)))
 | (apply st_m; (case hc => rfl); (case hg => (simp only [go_sem, *] <;> rfl)); (case he => (intro hQz; (try simp only [wantB_t, wantB_f, Bool.and_eq_true, Bool.not_eq_true', Bool.not_true, Bool.not_false, and_true, true_and] at hQz); simp only [go_sem, *] <;> rfl)); (case hp => (intro hQz; (try simp only [wantB_t, wantB_f, Bool.and_eq_true, Bool.not_eq_true', Bool.or_eq_false_iff, decide_eq_true_eq, decide_eq_false_iff_not, beq_iff_eq, beq_eq_false_iff_ne, bne_iff_ne, bne_eq_false_iff_eq, Int.not_lt, Int.not_le, Int.ofNat_lt, Int.ofNat_le] at hQz); first | trivial)))
 | (apply st_c; (case hc => (simp only [go_sem, *] <;> rfl)); (case hl => (simp only [go_sem, *] <;> rfl)); (case hn => (simp only [go_sem, *] <;> rfl)); (case hp => first | exact c1 | (have hXz := c1; simp only [go_sem, *] at hXz; exact hXz)))
 | (apply st_c; (case hc => (simp only [go_sem, *] <;> rfl)); (case hl => (simp only [go_sem, *] <;> rfl)); (case hn => (simp only [go_sem, *] <;> rfl)); (case hp => first | exact c2 | (have hXz := c2; simp only [go_sem, *] at hXz; exact hXz)))
 | (apply st_cd; (case hc => (simp only [go_sem, *] <;> rfl)); (case hl => (simp only [go_sem, *] <;> rfl)); (case hn => (simp only [go_sem, *] <;> rfl)); (case hp => first | exact c3 | (have hXz := c3; simp only [go_sem, *] at hXz; exact hXz)); (case hd => first | exact .v _ | exact .any | exact .nils | (repeat' (first | exact Dry.v _ | exact Dry.any | exact Dry.nils | exact Dry.slE | refine Dry.agg ?_ | refine Dry.tup ?_ | (refine List.forall_mem_cons.2 (And.intro ?_ ?_)) | (intro cQ hQ; cases hQ; done)))); (case hm => first | decide | (simp; done)))
 | (apply st_mc; (case hop => rfl); (case hg => (simp only [go_sem, *] <;> rfl)); (case hc => (intro hQz; (try simp only [wantB_t, wantB_f, Bool.and_eq_true, Bool.not_eq_true', Bool.not_true, Bool.not_false, and_true, true_and] at hQz); simp only [go_sem, *] <;> rfl)); (case hl => (intro hQz; (try simp only [wantB_t, wantB_f, Bool.and_eq_true, Bool.not_eq_true', Bool.not_true, Bool.not_false, and_true, true_and] at hQz); simp only [go_sem, *] <;> rfl)); (case hn => (intro hQz; (try simp only [wantB_t, wantB_f, Bool.and_eq_true, Bool.not_eq_true', Bool.not_true, Bool.not_false, and_true, true_and] at hQz); simp only [go_sem, *] <;> rfl)); (case hp => intro hQz; first | exact aw | (have hXz := aw; simp only [go_sem, *] at hXz; exact hXz)))
 | (refine Awp.ret ?_; try simp only [go_sem, *])
 | (refine Awp.skip ?_; try simp only [go_sem, *])
 | (apply Awp.cond; (case hc => (simp only [go_sem, *] <;> rfl)); all_goals (intro hg; (try simp only [Bool.not_true, Bool.not_false, reduceCtorEq] at hg)))
 | refine Awp.seq ?_)
    all_goals repeat' (first | exact Lower.bool (by first | rfl | (simp only [true_and, Bool.true_and, Bool.false_and, Bool.and_true, Bool.and_false, Bool.true_or, Bool.false_or, reduceIte, Bool.false_eq_true, *]; done) | (simp only [true_and, reduceIte, Bool.false_eq_true, *] <;> rfl) | (simp [true_and]; done) | (simp_all [true_and]; done) | omega))
  · rw [hb, if_pos rfl, e0] at c1
    have hz0 : (((0 : Nat) : Int) == 0) = true := rfl
    clear e0 hg
    cases b1 : decide (len < 1)
    · cases b2 : decide (32768 < len)
      · cases b3 : decide (wid < 1)
        · cases b4 : decide (32768 < wid)
          · rw [b1, b2, b3, b4] at hb
            cases hb
          · clear hb
            refine fn_pure Try.F7 (Nat.le_of_ble_eq_true rfl) ?_; unfold Try.ac7
            repeat' (first
 | (apply Awp.sreg; (case hn => (simp only [List.length_cons, List.length_nil, Nat.reduceAdd] <;> rfl)))
 | (refine st_nil ?_)
 | (apply st_a; (case hc => rfl); (case he => (simp only [go_sem, *] <;> rfl)); (case hu => (simp only [updL_nil, updL_cons] <;> rfl)); (case hp => first | trivial))
 | (apply st_m; (case hc => rfl); (case hg => (simp only [go_sem, *] <;> rfl)); (case he => (intro hQz; (try simp only [wantB_t, wantB_f, Bool.and_eq_true, Bool.not_eq_true', Bool.not_true, Bool.not_false, and_true, true_and] at hQz); simp only [go_sem, *] <;> rfl)); (case hp => (intro hQz; (try simp only [wantB_t, wantB_f, Bool.and_eq_true, Bool.not_eq_true', Bool.or_eq_false_iff, decide_eq_true_eq, decide_eq_false_iff_not, beq_iff_eq, beq_eq_false_iff_ne, bne_iff_ne, bne_eq_false_iff_eq, Int.not_lt, Int.not_le, Int.ofNat_lt, Int.ofNat_le] at hQz); first | trivial)))
 | (apply st_c; (case hc => (simp only [go_sem, *] <;> rfl)); (case hl => (simp only [go_sem, *] <;> rfl)); (case hn => (simp only [go_sem, *] <;> rfl)); (case hp => first | exact c1 | (have hXz := c1; simp only [go_sem, *] at hXz; exact hXz)))
 | (apply st_mc; (case hop => rfl); (case hg => (simp only [go_sem, *] <;> rfl)); (case hc => (intro hQz; (try simp only [wantB_t, wantB_f, Bool.and_eq_true, Bool.not_eq_true', Bool.not_true, Bool.not_false, and_true, true_and] at hQz); simp only [go_sem, *] <;> rfl)); (case hl => (intro hQz; (try simp only [wantB_t, wantB_f, Bool.and_eq_true, Bool.not_eq_true', Bool.not_true, Bool.not_false, and_true, true_and] at hQz); simp only [go_sem, *] <;> rfl)); (case hn => (intro hQz; (try simp only [wantB_t, wantB_f, Bool.and_eq_true, Bool.not_eq_true', Bool.not_true, Bool.not_false, and_true, true_and] at hQz); simp only [go_sem, *] <;> rfl)); (case hp => intro hQz; first | exact aw | (have hXz := aw; simp only [go_sem, *] at hXz; exact hXz)))
 | (refine Awp.ret ?_; try simp only [go_sem, *])
 | (apply Awp.cond; (case hc => (simp only [go_sem, *] <;> rfl)); all_goals (intro hg; (try simp only [Bool.not_true, Bool.not_false, reduceCtorEq] at hg)))
 | refine Awp.seq ?_)
            all_goals repeat' (first | exact Lower.bool (by first | rfl | (simp only [true_and, Bool.true_and, Bool.false_and, Bool.and_true, Bool.and_false, Bool.true_or, Bool.false_or, reduceIte, Bool.false_eq_true, *]; done) | (simp only [true_and, reduceIte, Bool.false_eq_true, *] <;> rfl) | (simp [true_and]; done) | (simp_all [true_and]; done) | omega))
        · clear hb
          refine fn_pure Try.F7 (Nat.le_of_ble_eq_true rfl) ?_; unfold Try.ac7
          repeat' (first
 | (apply Awp.sreg; (case hn => (simp only [List.length_cons, List.length_nil, Nat.reduceAdd] <;> rfl)))
 | (refine st_nil ?_)
 | (apply st_a; (case hc => rfl); (case he => (simp only [go_sem, *] <;> rfl)); (case hu => (simp only [updL_nil, updL_cons] <;> rfl)); (case hp => first | trivial))
 | (apply st_m; (case hc => rfl); (case hg => (simp only [go_sem, *] <;> rfl)); (case he => (intro hQz; (try simp only [wantB_t, wantB_f, Bool.and_eq_true, Bool.not_eq_true', Bool.not_true, Bool.not_false, and_true, true_and] at hQz); simp only [go_sem, *] <;> rfl)); (case hp => (intro hQz; (try simp only [wantB_t, wantB_f, Bool.and_eq_true, Bool.not_eq_true', Bool.or_eq_false_iff, decide_eq_true_eq, decide_eq_false_iff_not, beq_iff_eq, beq_eq_false_iff_ne, bne_iff_ne, bne_eq_false_iff_eq, Int.not_lt, Int.not_le, Int.ofNat_lt, Int.ofNat_le] at hQz); first | trivial)))
 | (apply st_c; (case hc => (simp only [go_sem, *] <;> rfl)); (case hl => (simp only [go_sem, *] <;> rfl)); (case hn => (simp only [go_sem, *] <;> rfl)); (case hp => first | exact c1 | (have hXz := c1; simp only [go_sem, *] at hXz; exact hXz)))
 | (apply st_mc; (case hop => rfl); (case hg => (simp only [go_sem, *] <;> rfl)); (case hc => (intro hQz; (try simp only [wantB_t, wantB_f, Bool.and_eq_true, Bool.not_eq_true', Bool.not_true, Bool.not_false, and_true, true_and] at hQz); simp only [go_sem, *] <;> rfl)); (case hl => (intro hQz; (try simp only [wantB_t, wantB_f, Bool.and_eq_true, Bool.not_eq_true', Bool.not_true, Bool.not_false, and_true, true_and] at hQz); simp only [go_sem, *] <;> rfl)); (case hn => (intro hQz; (try simp only [wantB_t, wantB_f, Bool.and_eq_true, Bool.not_eq_true', Bool.not_true, Bool.not_false, and_true, true_and] at hQz); simp only [go_sem, *] <;> rfl)); (case hp => intro hQz; first | exact aw | (have hXz := aw; simp only [go_sem, *] at hXz; exact hXz)))
 | (refine Awp.ret ?_; try simp only [go_sem, *])
 | (apply Awp.cond; (case hc => (simp only [go_sem, *] <;> rfl)); all_goals (intro hg; (try simp only [Bool.not_true, Bool.not_false, reduceCtorEq] at hg)))
 | refine Awp.seq ?_)
          all_goals repeat' (first | exact Lower.bool (by first | rfl | (simp only [true_and, Bool.true_and, Bool.false_and, Bool.and_true, Bool.and_false, Bool.true_or, Bool.false_or, reduceIte, Bool.false_eq_true, *]; done) | (simp only [true_and, reduceIte, Bool.false_eq_true, *] <;> rfl) | (simp [true_and]; done) | (simp_all [true_and]; done) | omega))
      · clear hb
        refine fn_pure Try.F7 (Nat.le_of_ble_eq_true rfl) ?_; unfold Try.ac7
        repeat' (first
 | (apply Awp.sreg; (case hn => (simp only [List.length_cons, List.length_nil, Nat.reduceAdd] <;> rfl)))
 | (refine st_nil ?_)
 | (apply st_a; (case hc => rfl); (case he => (simp only [go_sem, *] <;> rfl)); (case hu => (simp only [updL_nil, updL_cons] <;> rfl)); (case hp => first | trivial))
 | (apply st_m; (case hc => rfl); (case hg => (simp only [go_sem, *] <;> rfl)); (case he => (intro hQz; (try simp only [wantB_t, wantB_f, Bool.and_eq_true, Bool.not_eq_true', Bool.not_true, Bool.not_false, and_true, true_and] at hQz); simp only [go_sem, *] <;> rfl)); (case hp => (intro hQz; (try simp only [wantB_t, wantB_f, Bool.and_eq_true, Bool.not_eq_true', Bool.or_eq_false_iff, decide_eq_true_eq, decide_eq_false_iff_not, beq_iff_eq, beq_eq_false_iff_ne, bne_iff_ne, bne_eq_false_iff_eq, Int.not_lt, Int.not_le, Int.ofNat_lt, Int.ofNat_le] at hQz); first | trivial)))
 | (apply st_c; (case hc => (simp only [go_sem, *] <;> rfl)); (case hl => (simp only [go_sem, *] <;> rfl)); (case hn => (simp only [go_sem, *] <;> rfl)); (case hp => first | exact c1 | (have hXz := c1; simp only [go_sem, *] at hXz; exact hXz)))
 | (apply st_mc; (case hop => rfl); (case hg => (simp only [go_sem, *] <;> rfl)); (case hc => (intro hQz; (try simp only [wantB_t, wantB_f, Bool.and_eq_true, Bool.not_eq_true', Bool.not_true, Bool.not_false, and_true, true_and] at hQz); simp only [go_sem, *] <;> rfl)); (case hl => (intro hQz; (try simp only [wantB_t, wantB_f, Bool.and_eq_true, Bool.not_eq_true', Bool.not_true, Bool.not_false, and_true, true_and] at hQz); simp only [go_sem, *] <;> rfl)); (case hn => (intro hQz; (try simp only [wantB_t, wantB_f, Bool.and_eq_true, Bool.not_eq_true', Bool.not_true, Bool.not_false, and_true, true_and] at hQz); simp only [go_sem, *] <;> rfl)); (case hp => intro hQz; first | exact aw | (have hXz := aw; simp only [go_sem, *] at hXz; exact hXz)))
 | (refine Awp.ret ?_; try simp only [go_sem, *])
 | (apply Awp.cond; (case hc => (simp only [go_sem, *] <;> rfl)); all_goals (intro hg; (try simp only [Bool.not_true, Bool.not_false, reduceCtorEq] at hg)))
 | refine Awp.seq ?_)
        all_goals repeat' (first | exact Lower.bool (by first | rfl | (simp only [true_and, Bool.true_and, Bool.false_and, Bool.and_true, Bool.and_false, Bool.true_or, Bool.false_or, reduceIte, Bool.false_eq_true, *]; done) | (simp only [true_and, reduceIte, Bool.false_eq_true, *] <;> rfl) | (simp [true_and]; done) | (simp_all [true_and]; done) | omega))
    · clear hb
      refine fn_pure Try.F7 (Nat.le_of_ble_eq_true rfl) ?_; unfold Try.ac7
      repeat' (first
 | (apply Awp.sreg; (case hn => (simp only [List.length_cons, List.length_nil, Nat.reduceAdd] <;> rfl)))
 | (refine st_nil ?_)
 | (apply st_a; (case hc => rfl); (case he => (simp only [go_sem, *] <;> rfl)); (case hu => (simp only [updL_nil, updL_cons] <;> rfl)); (case hp => first | trivial))
 | (apply st_m; (case hc => rfl); (case hg => (simp only [go_sem, *] <;> rfl)); (case he => (intro hQz; (try simp only [wantB_t, wantB_f, Bool.and_eq_true, Bool.not_eq_true', Bool.not_true, Bool.not_false, and_true, true_and] at hQz); simp only [go_sem, *] <;> rfl)); (case hp => (intro hQz; (try simp only [wantB_t, wantB_f, Bool.and_eq_true, Bool.not_eq_true', Bool.or_eq_false_iff, decide_eq_true_eq, decide_eq_false_iff_not, beq_iff_eq, beq_eq_false_iff_ne, bne_iff_ne, bne_eq_false_iff_eq, Int.not_lt, Int.not_le, Int.ofNat_lt, Int.ofNat_le] at hQz); first | trivial)))
 | (apply st_c; (case hc => (simp only [go_sem, *] <;> rfl)); (case hl => (simp only [go_sem, *] <;> rfl)); (case hn => (simp only [go_sem, *] <;> rfl)); (case hp => first | exact c1 | (have hXz := c1; simp only [go_sem, *] at hXz; exact hXz)))
 | (apply st_mc; (case hop => rfl); (case hg => (simp only [go_sem, *] <;> rfl)); (case hc => (intro hQz; (try simp only [wantB_t, wantB_f, Bool.and_eq_true, Bool.not_eq_true', Bool.not_true, Bool.not_false, and_true, true_and] at hQz); simp only [go_sem, *] <;> rfl)); (case hl => (intro hQz; (try simp only [wantB_t, wantB_f, Bool.and_eq_true, Bool.not_eq_true', Bool.not_true, Bool.not_false, and_true, true_and] at hQz); simp only [go_sem, *] <;> rfl)); (case hn => (intro hQz; (try simp only [wantB_t, wantB_f, Bool.and_eq_true, Bool.not_eq_true', Bool.not_true, Bool.not_false, and_true, true_and] at hQz); simp only [go_sem, *] <;> rfl)); (case hp => intro hQz; first | exact aw | (have hXz := aw; simp only [go_sem, *] at hXz; exact hXz)))
 | (refine Awp.ret ?_; try simp only [go_sem, *])
 | (apply Awp.cond; (case hc => (simp only [go_sem, *] <;> rfl)); all_goals (intro hg; (try simp only [Bool.not_true, Bool.not_false, reduceCtorEq] at hg)))
 | refine Awp.seq ?_)
      all_goals repeat' (first | exact Lower.bool (by first | rfl | (simp only [true_and, Bool.true_and, Bool.false_and, Bool.and_true, Bool.and_false, Bool.true_or, Bool.false_or, reduceIte, Bool.false_eq_true, *]; done) | (simp only [true_and, reduceIte, Bool.false_eq_true, *] <;> rfl) | (simp [true_and]; done) | (simp_all [true_and]; done) | omega))
theorem right_more {len wid : Int} {l : List Rc} {y : Rc} {g : Int} (h : rightB len wid (l ++ [y]) g = true) : rightB len wid l g = true := by
  unfold rightB headR at *
  rw [List.any_append] at h
  simp only [Bool.and_eq_true, Bool.not_eq_true', Bool.or_eq_false_iff, Bool.not_eq_false', decide_eq_true_eq, decide_eq_false_iff_not, List.length_append, List.length_cons, List.length_nil] at *
  refine ⟨⟨h.1.1, by omega⟩, h.2.1⟩
theorem right_gap {len wid : Int} {l : List Rc} {g : Int} (hg : 0 ≤ g) (h : rightB len wid l (g + 1) = true) : rightB len wid l g = true := by
  unfold rightB headR at *
  simp only [Bool.and_eq_true, Bool.not_eq_true', Bool.or_eq_false_iff, Bool.not_eq_false', decide_eq_true_eq, decide_eq_false_iff_not] at *
  refine ⟨⟨⟨h.1.1.1, by omega⟩, h.1.2⟩, h.2⟩
theorem more_body (x : Plate) (y : Rc) : Pure Try.prog 8 [x.av, y.av] (.v (.bool true)) := by
  have aw := awake_ok
  by_cases h5 : x.tk.length ≤ 5
  case neg =>
    have h5' : decide ((5 : Int) < x.tk.length) = true := decide_eq_true (by omega)
    clear h5
    refine fn_pure Try.F8 (Nat.le_of_ble_eq_true rfl) ?_; unfold Try.ac8
    repeat' (first
 | (apply Awp.sreg; (case hn => (simp only [List.length_cons, List.length_nil, Nat.reduceAdd] <;> rfl)))
 | (refine st_nil ?_)
 | (apply st_a; (case hc => rfl); (case he => (simp only [go_sem, *] <;> rfl)); (case hu => (simp only [updL_nil, updL_cons] <;> rfl)); (case hp => first | trivial))
 | (apply st_m; (case hc => rfl); (case hg => (simp only [go_sem, *] <;> rfl)); (case he => (intro hQz; (try simp only [wantB_t, wantB_f, Bool.and_eq_true, Bool.not_eq_true', Bool.not_true, Bool.not_false, and_true, true_and] at hQz); simp only [go_sem, *] <;> rfl)); (case hp => (intro hQz; (try simp only [wantB_t, wantB_f, Bool.and_eq_true, Bool.not_eq_true', Bool.or_eq_false_iff, decide_eq_true_eq, decide_eq_false_iff_not, beq_iff_eq, beq_eq_false_iff_ne, bne_iff_ne, bne_eq_false_iff_eq, Int.not_lt, Int.not_le, Int.ofNat_lt, Int.ofNat_le] at hQz); first | trivial)))
 | (apply st_c; (case hc => (simp only [go_sem, *] <;> rfl)); (case hl => (simp only [go_sem, *] <;> rfl)); (case hn => (simp only [go_sem, *] <;> rfl)); (case hp => first | exact aw | (have hXz := aw; simp only [go_sem, *] at hXz; exact hXz)))
 | (refine Awp.ret ?_; try simp only [go_sem, *])
 | (apply Awp.cond; (case hc => (simp only [go_sem, *] <;> rfl)); all_goals (intro hg; (try simp only [Bool.not_true, Bool.not_false, reduceCtorEq] at hg)))
 | refine Awp.seq ?_)
    all_goals repeat' (first | exact Lower.bool (by first | rfl | (simp only [true_and, Bool.true_and, Bool.false_and, Bool.and_true, Bool.and_false, Bool.true_or, Bool.false_or, reduceIte, Bool.false_eq_true, *]; done) | (simp only [true_and, reduceIte, Bool.false_eq_true, *] <;> rfl) | (simp [true_and]; done) | (simp_all [true_and]; done) | omega))
  have h5' : decide ((5 : Int) < x.tk.length) = false := decide_eq_false (by omega)
  cases hg0 : decide (x.gap < 0)
  case true =>
    clear h5
    refine fn_pure Try.F8 (Nat.le_of_ble_eq_true rfl) ?_; unfold Try.ac8
    repeat' (first
 | (apply Awp.sreg; (case hn => (simp only [List.length_cons, List.length_nil, Nat.reduceAdd] <;> rfl)))
 | (refine st_nil ?_)
 | (apply st_a; (case hc => rfl); (case he => (simp only [go_sem, *] <;> rfl)); (case hu => (simp only [updL_nil, updL_cons] <;> rfl)); (case hp => first | trivial))
 | (apply st_m; (case hc => rfl); (case hg => (simp only [go_sem, *] <;> rfl)); (case he => (intro hQz; (try simp only [wantB_t, wantB_f, Bool.and_eq_true, Bool.not_eq_true', Bool.not_true, Bool.not_false, and_true, true_and] at hQz); simp only [go_sem, *] <;> rfl)); (case hp => (intro hQz; (try simp only [wantB_t, wantB_f, Bool.and_eq_true, Bool.not_eq_true', Bool.or_eq_false_iff, decide_eq_true_eq, decide_eq_false_iff_not, beq_iff_eq, beq_eq_false_iff_ne, bne_iff_ne, bne_eq_false_iff_eq, Int.not_lt, Int.not_le, Int.ofNat_lt, Int.ofNat_le] at hQz); first | trivial)))
 | (apply st_c; (case hc => (simp only [go_sem, *] <;> rfl)); (case hl => (simp only [go_sem, *] <;> rfl)); (case hn => (simp only [go_sem, *] <;> rfl)); (case hp => first | exact aw | (have hXz := aw; simp only [go_sem, *] at hXz; exact hXz)))
 | (refine Awp.ret ?_; try simp only [go_sem, *])
 | (apply Awp.cond; (case hc => (simp only [go_sem, *] <;> rfl)); all_goals (intro hg; (try simp only [Bool.not_true, Bool.not_false, reduceCtorEq] at hg)))
 | refine Awp.seq ?_)
    all_goals repeat' (first | exact Lower.bool (by first | rfl | (simp only [true_and, Bool.true_and, Bool.false_and, Bool.and_true, Bool.and_false, Bool.true_or, Bool.false_or, reduceIte, Bool.false_eq_true, *]; done) | (simp only [true_and, reduceIte, Bool.false_eq_true, *] <;> rfl) | (simp [true_and]; done) | (simp_all [true_and]; done) | omega))
  cases hg1 : decide ((499 : Int) < x.gap)
  case true =>
    clear h5
    refine fn_pure Try.F8 (Nat.le_of_ble_eq_true rfl) ?_; unfold Try.ac8
    repeat' (first
 | (apply Awp.sreg; (case hn => (simp only [List.length_cons, List.length_nil, Nat.reduceAdd] <;> rfl)))
 | (refine st_nil ?_)
 | (apply st_a; (case hc => rfl); (case he => (simp only [go_sem, *] <;> rfl)); (case hu => (simp only [updL_nil, updL_cons] <;> rfl)); (case hp => first | trivial))
 | (apply st_m; (case hc => rfl); (case hg => (simp only [go_sem, *] <;> rfl)); (case he => (intro hQz; (try simp only [wantB_t, wantB_f, Bool.and_eq_true, Bool.not_eq_true', Bool.not_true, Bool.not_false, and_true, true_and] at hQz); simp only [go_sem, *] <;> rfl)); (case hp => (intro hQz; (try simp only [wantB_t, wantB_f, Bool.and_eq_true, Bool.not_eq_true', Bool.or_eq_false_iff, decide_eq_true_eq, decide_eq_false_iff_not, beq_iff_eq, beq_eq_false_iff_ne, bne_iff_ne, bne_eq_false_iff_eq, Int.not_lt, Int.not_le, Int.ofNat_lt, Int.ofNat_le] at hQz); first | trivial)))
 | (apply st_c; (case hc => (simp only [go_sem, *] <;> rfl)); (case hl => (simp only [go_sem, *] <;> rfl)); (case hn => (simp only [go_sem, *] <;> rfl)); (case hp => first | exact aw | (have hXz := aw; simp only [go_sem, *] at hXz; exact hXz)))
 | (refine Awp.ret ?_; try simp only [go_sem, *])
 | (apply Awp.cond; (case hc => (simp only [go_sem, *] <;> rfl)); all_goals (intro hg; (try simp only [Bool.not_true, Bool.not_false, reduceCtorEq] at hg)))
 | refine Awp.seq ?_)
    all_goals repeat' (first | exact Lower.bool (by first | rfl | (simp only [true_and, Bool.true_and, Bool.false_and, Bool.and_true, Bool.and_false, Bool.true_or, Bool.false_or, reduceIte, Bool.false_eq_true, *]; done) | (simp only [true_and, reduceIte, Bool.false_eq_true, *] <;> rfl) | (simp [true_and]; done) | (simp_all [true_and]; done) | omega))
  have hg0' : 0 ≤ x.gap := by have := of_decide_eq_false hg0; omega
  have hg1' : x.gap ≤ 499 := by have := of_decide_eq_false hg1; omega
  have ww : IntKind.i64.wrap (x.gap + 1) = x.gap + 1 := wrap_i64 (by omega) (by omega)
  have c0 := largest_ok x.len x.wid x.tk x.gap
  have c1 := largest_ok x.len x.wid (x.tk ++ [y]) x.gap
  have c2 := largest_ok x.len x.wid x.tk (x.gap + 1)
  have s0 := largest_small x.len x.wid x.tk x.gap
  have s1 := largest_small x.len x.wid (x.tk ++ [y]) x.gap
  have s2 := largest_small x.len x.wid x.tk (x.gap + 1)
  have h1 : (largestE x.len x.wid (x.tk ++ [y]) x.gap).2 = true → (largestE x.len x.wid x.tk x.gap).2 = true ∧ areaZ (largestE x.len x.wid (x.tk ++ [y]) x.gap).1 ≤ areaZ (largestE x.len x.wid x.tk x.gap).1 := fun h => by
    obtain ⟨hR, hf, _⟩ := largest_best h
    exact largest_has (right_more hR) (free_more hf)
  have h2 : (largestE x.len x.wid x.tk (x.gap + 1)).2 = true → (largestE x.len x.wid x.tk x.gap).2 = true ∧ areaZ (largestE x.len x.wid x.tk (x.gap + 1)).1 ≤ areaZ (largestE x.len x.wid x.tk x.gap).1 := fun h => by
    obtain ⟨hR, hf, _⟩ := largest_best h
    exact largest_has (right_gap hg0' hR) (free_gap hf)
  rw [← rcs_snocC] at c1
  generalize largestE x.len x.wid x.tk x.gap = L0 at *
  generalize largestE x.len x.wid (x.tk ++ [y]) x.gap = L1 at *
  generalize largestE x.len x.wid x.tk (x.gap + 1) = L2 at *
  obtain ⟨r0, k0⟩ := L0
  obtain ⟨r1, k1⟩ := L1
  obtain ⟨r2, k2⟩ := L2
  simp only [] at *
  have a0 := rarea_ok r0 s0
  have a1 := rarea_ok r1 s1
  have a2 := rarea_ok r2 s2
  have hone := rcs_one x.tk
  have hxl : x.tk.length ≤ 5 := h5
  clear s0 s1 s2 hg0' hg1' h5
  generalize areaZ r0 = A0 at *
  generalize areaZ r1 = A1 at *
  generalize areaZ r2 = A2 at *
  cases k1
  · cases k2
    · clear h1 h2 a0 a1 a2
      refine fn_pure Try.F8 (Nat.le_of_ble_eq_true rfl) ?_; unfold Try.ac8
      repeat' (first
 | (apply Awp.sreg; (case hn => (simp only [List.length_cons, List.length_nil, Nat.reduceAdd] <;> rfl)))
 | (apply Awp.sdraw; (case hn => (simp only [List.length_cons, List.length_nil, Nat.reduceAdd] <;> rfl)))
 | (refine st_nil ?_)
 | (apply st_a; (case hc => rfl); (case he => (simp only [go_sem, *] <;> rfl)); (case hu => (simp only [updL_nil, updL_cons] <;> rfl)); (case hp => first | trivial))
 | (apply st_m; (case hc => rfl); (case hg => (simp only [go_sem, *] <;> rfl)); (case he => (intro hQz; (try simp only [wantB_t, wantB_f, Bool.and_eq_true, Bool.not_eq_true', Bool.not_true, Bool.not_false, and_true, true_and] at hQz); simp only [go_sem, *] <;> rfl)); (case hp => (intro hQz; (try simp only [wantB_t, wantB_f, Bool.and_eq_true, Bool.not_eq_true', Bool.or_eq_false_iff, decide_eq_true_eq, decide_eq_false_iff_not, beq_iff_eq, beq_eq_false_iff_ne, bne_iff_ne, bne_eq_false_iff_eq, Int.not_lt, Int.not_le, Int.ofNat_lt, Int.ofNat_le] at hQz); first | trivial)))
 | (apply st_c; (case hc => (simp only [go_sem, *] <;> rfl)); (case hl => (simp only [go_sem, *] <;> rfl)); (case hn => (simp only [go_sem, *] <;> rfl)); (case hp => first | exact c0 | (have hXz := c0; simp only [go_sem, *] at hXz; exact hXz)))
 | (apply st_c; (case hc => (simp only [go_sem, *] <;> rfl)); (case hl => (simp only [go_sem, *] <;> rfl)); (case hn => (simp only [go_sem, *] <;> rfl)); (case hp => first | exact c2 | (have hXz := c2; simp only [go_sem, *] at hXz; exact hXz)))
 | (refine Awp.ret ?_; try simp only [go_sem, *])
 | (refine Awp.skip ?_; try simp only [go_sem, *])
 | (apply Awp.cond; (case hc => (simp only [go_sem, *] <;> rfl)); all_goals (intro hg; (try simp only [Bool.not_true, Bool.not_false, reduceCtorEq] at hg)))
 | refine Awp.seq ?_
 | (apply sl_a; (case hc => rfl); (case he => (simp only [go_sem, *] <;> rfl)); (case hu => (simp only [updL_nil, updL_cons] <;> rfl)); (case hl => (simp only [List.map_cons, List.map_nil] <;> rfl)); (case hp => first | trivial | (simp; done) | (simp; omega) | ((repeat' (refine And.intro ?_ ?_)) <;> first | trivial | assumption | omega | (simp; done) | (simp; omega) | (simp [*]; done))))
 | (apply sl_gu; (case hv => (simp only [go_sem, *] <;> rfl)))
 | (apply sl_gn; (case hv => (simp only [go_sem, *] <;> rfl)); (case hbw => rfl))
 | (apply sl_ga; (case hb => rfl); (case hv => (simp only [go_sem, *] <;> rfl)); (case he => (simp only [go_sem, *] <;> rfl)); (case hu => (simp only [updL_nil, updL_cons] <;> rfl)); (case hl => (simp only [List.map_cons, List.map_nil] <;> rfl)); (case hp => first | trivial))
 | (apply sl_cg; (case hop => rfl); (case hv => (simp only [go_sem, *] <;> rfl)); (case hc => (simp only [go_sem, *] <;> rfl)); (case hl => (simp only [go_sem, *] <;> rfl)); (case hn => (simp only [go_sem, *] <;> rfl)); (case hp => first | exact aw | (have hXz := aw; simp only [go_sem, *] at hXz; exact hXz)); (case hd => first | exact .inl rfl | exact .inr (.v _) | exact .inr .any | exact .inr .nils | (refine .inr ?_; (repeat' (first | exact Dry.v _ | exact Dry.any | exact Dry.nils | exact Dry.slE | refine Dry.agg ?_ | refine Dry.tup ?_ | (refine List.forall_mem_cons.2 (And.intro ?_ ?_)) | (intro cQ hQ; cases hQ; done))); done)); (case hm => first | decide | (simp; done)))
 | (apply sl_c; (case hc => (simp only [go_sem, *] <;> rfl)); (case hl => (simp only [go_sem, *] <;> rfl)); (case hn => (simp only [go_sem, *] <;> rfl)); (case hp => first | exact c1 | (have hXz := c1; simp only [go_sem, *] at hXz; exact hXz)); (case hd => first | exact .inl rfl | exact .inr (.v _) | exact .inr .any | exact .inr .nils | (refine .inr ?_; (repeat' (first | exact Dry.v _ | exact Dry.any | exact Dry.nils | exact Dry.slE | refine Dry.agg ?_ | refine Dry.tup ?_ | (refine List.forall_mem_cons.2 (And.intro ?_ ?_)) | (intro cQ hQ; cases hQ; done))); done)); (case hm => first | decide | (simp; done)))
 | (refine sl_nil (And.intro (by first | exact drawOk_of (by decide +kernel) | (simp only [List.map_cons, List.map_nil]; exact drawOk_of (by decide +kernel)) | decide) ?_)))
      all_goals repeat' (first | exact Lower.bool (by first | rfl | (simp only [true_and, Bool.true_and, Bool.false_and, Bool.and_true, Bool.and_false, Bool.true_or, Bool.false_or, reduceIte, Bool.false_eq_true, *]; done) | (simp only [true_and, reduceIte, Bool.false_eq_true, *] <;> rfl) | (simp [true_and]; done) | (simp_all [true_and]; done) | omega))
    · obtain ⟨e, hle⟩ := h2 rfl
      subst e
      have d2 : decide (A2 ≤ A0) = true := decide_eq_true hle
      clear h1 h2 a1 hle
      refine fn_pure Try.F8 (Nat.le_of_ble_eq_true rfl) ?_; unfold Try.ac8
      repeat' (first
 | (apply Awp.sreg; (case hn => (simp only [List.length_cons, List.length_nil, Nat.reduceAdd] <;> rfl)))
 | (apply Awp.sdraw; (case hn => (simp only [List.length_cons, List.length_nil, Nat.reduceAdd] <;> rfl)))
 | (refine st_nil ?_)
 | (apply st_a; (case hc => rfl); (case he => (simp only [go_sem, *] <;> rfl)); (case hu => (simp only [updL_nil, updL_cons] <;> rfl)); (case hp => first | trivial))
 | (apply st_m; (case hc => rfl); (case hg => (simp only [go_sem, *] <;> rfl)); (case he => (intro hQz; (try simp only [wantB_t, wantB_f, Bool.and_eq_true, Bool.not_eq_true', Bool.not_true, Bool.not_false, and_true, true_and] at hQz); simp only [go_sem, *] <;> rfl)); (case hp => (intro hQz; (try simp only [wantB_t, wantB_f, Bool.and_eq_true, Bool.not_eq_true', Bool.or_eq_false_iff, decide_eq_true_eq, decide_eq_false_iff_not, beq_iff_eq, beq_eq_false_iff_ne, bne_iff_ne, bne_eq_false_iff_eq, Int.not_lt, Int.not_le, Int.ofNat_lt, Int.ofNat_le] at hQz); first | trivial)))
 | (apply st_c; (case hc => (simp only [go_sem, *] <;> rfl)); (case hl => (simp only [go_sem, *] <;> rfl)); (case hn => (simp only [go_sem, *] <;> rfl)); (case hp => first | exact c0 | (have hXz := c0; simp only [go_sem, *] at hXz; exact hXz)))
 | (apply st_c; (case hc => (simp only [go_sem, *] <;> rfl)); (case hl => (simp only [go_sem, *] <;> rfl)); (case hn => (simp only [go_sem, *] <;> rfl)); (case hp => first | exact c2 | (have hXz := c2; simp only [go_sem, *] at hXz; exact hXz)))
 | (refine Awp.ret ?_; try simp only [go_sem, *])
 | (refine Awp.skip ?_; try simp only [go_sem, *])
 | (apply Awp.cond; (case hc => (simp only [go_sem, *] <;> rfl)); all_goals (intro hg; (try simp only [Bool.not_true, Bool.not_false, reduceCtorEq] at hg)))
 | refine Awp.seq ?_
 | (apply sl_a; (case hc => rfl); (case he => (simp only [go_sem, *] <;> rfl)); (case hu => (simp only [updL_nil, updL_cons] <;> rfl)); (case hl => (simp only [List.map_cons, List.map_nil] <;> rfl)); (case hp => first | trivial | (simp; done) | (simp; omega) | ((repeat' (refine And.intro ?_ ?_)) <;> first | trivial | assumption | omega | (simp; done) | (simp; omega) | (simp [*]; done))))
 | (apply sl_gu; (case hv => (simp only [go_sem, *] <;> rfl)))
 | (apply sl_gn; (case hv => (simp only [go_sem, *] <;> rfl)); (case hbw => rfl))
 | (apply sl_ga; (case hb => rfl); (case hv => (simp only [go_sem, *] <;> rfl)); (case he => (simp only [go_sem, *] <;> rfl)); (case hu => (simp only [updL_nil, updL_cons] <;> rfl)); (case hl => (simp only [List.map_cons, List.map_nil] <;> rfl)); (case hp => first | trivial))
 | (apply sl_cg; (case hop => rfl); (case hv => (simp only [go_sem, *] <;> rfl)); (case hc => (simp only [go_sem, *] <;> rfl)); (case hl => (simp only [go_sem, *] <;> rfl)); (case hn => (simp only [go_sem, *] <;> rfl)); (case hp => first | exact aw | (have hXz := aw; simp only [go_sem, *] at hXz; exact hXz)); (case hd => first | exact .inl rfl | exact .inr (.v _) | exact .inr .any | exact .inr .nils | (refine .inr ?_; (repeat' (first | exact Dry.v _ | exact Dry.any | exact Dry.nils | exact Dry.slE | refine Dry.agg ?_ | refine Dry.tup ?_ | (refine List.forall_mem_cons.2 (And.intro ?_ ?_)) | (intro cQ hQ; cases hQ; done))); done)); (case hm => first | decide | (simp; done)))
 | (apply sl_c; (case hc => (simp only [go_sem, *] <;> rfl)); (case hl => (simp only [go_sem, *] <;> rfl)); (case hn => (simp only [go_sem, *] <;> rfl)); (case hp => first | exact c1 | (have hXz := c1; simp only [go_sem, *] at hXz; exact hXz)); (case hd => first | exact .inl rfl | exact .inr (.v _) | exact .inr .any | exact .inr .nils | (refine .inr ?_; (repeat' (first | exact Dry.v _ | exact Dry.any | exact Dry.nils | exact Dry.slE | refine Dry.agg ?_ | refine Dry.tup ?_ | (refine List.forall_mem_cons.2 (And.intro ?_ ?_)) | (intro cQ hQ; cases hQ; done))); done)); (case hm => first | decide | (simp; done)))
 | (apply sl_cg; (case hop => rfl); (case hv => (simp only [go_sem, *] <;> rfl)); (case hc => (simp only [go_sem, *] <;> rfl)); (case hl => (simp only [go_sem, *] <;> rfl)); (case hn => (simp only [go_sem, *] <;> rfl)); (case hp => first | exact a0 | (have hXz := a0; simp only [go_sem, *] at hXz; exact hXz)); (case hd => first | exact .inl rfl | exact .inr (.v _) | exact .inr .any | exact .inr .nils | (refine .inr ?_; (repeat' (first | exact Dry.v _ | exact Dry.any | exact Dry.nils | exact Dry.slE | refine Dry.agg ?_ | refine Dry.tup ?_ | (refine List.forall_mem_cons.2 (And.intro ?_ ?_)) | (intro cQ hQ; cases hQ; done))); done)); (case hm => first | decide | (simp; done)))
 | (apply sl_cg; (case hop => rfl); (case hv => (simp only [go_sem, *] <;> rfl)); (case hc => (simp only [go_sem, *] <;> rfl)); (case hl => (simp only [go_sem, *] <;> rfl)); (case hn => (simp only [go_sem, *] <;> rfl)); (case hp => first | exact a2 | (have hXz := a2; simp only [go_sem, *] at hXz; exact hXz)); (case hd => first | exact .inl rfl | exact .inr (.v _) | exact .inr .any | exact .inr .nils | (refine .inr ?_; (repeat' (first | exact Dry.v _ | exact Dry.any | exact Dry.nils | exact Dry.slE | refine Dry.agg ?_ | refine Dry.tup ?_ | (refine List.forall_mem_cons.2 (And.intro ?_ ?_)) | (intro cQ hQ; cases hQ; done))); done)); (case hm => first | decide | (simp; done)))
 | (refine sl_nil (And.intro (by first | exact drawOk_of (by decide +kernel) | (simp only [List.map_cons, List.map_nil]; exact drawOk_of (by decide +kernel)) | decide) ?_)))
      all_goals repeat' (first | exact Lower.bool (by first | rfl | (simp only [true_and, Bool.true_and, Bool.false_and, Bool.and_true, Bool.and_false, Bool.true_or, Bool.false_or, reduceIte, Bool.false_eq_true, *]; done) | (simp only [true_and, reduceIte, Bool.false_eq_true, *] <;> rfl) | (simp [true_and]; done) | (simp_all [true_and]; done) | omega))
  · obtain ⟨e, hle⟩ := h1 rfl
    subst e
    have d1 : decide (A1 ≤ A0) = true := decide_eq_true hle
    cases k2
    · clear h1 h2 a2 hle
      refine fn_pure Try.F8 (Nat.le_of_ble_eq_true rfl) ?_; unfold Try.ac8
      repeat' (first
 | (apply Awp.sreg; (case hn => (simp only [List.length_cons, List.length_nil, Nat.reduceAdd] <;> rfl)))
 | (apply Awp.sdraw; (case hn => (simp only [List.length_cons, List.length_nil, Nat.reduceAdd] <;> rfl)))
 | (refine st_nil ?_)
 | (apply st_a; (case hc => rfl); (case he => (simp only [go_sem, *] <;> rfl)); (case hu => (simp only [updL_nil, updL_cons] <;> rfl)); (case hp => first | trivial))
 | (apply st_m; (case hc => rfl); (case hg => (simp only [go_sem, *] <;> rfl)); (case he => (intro hQz; (try simp only [wantB_t, wantB_f, Bool.and_eq_true, Bool.not_eq_true', Bool.not_true, Bool.not_false, and_true, true_and] at hQz); simp only [go_sem, *] <;> rfl)); (case hp => (intro hQz; (try simp only [wantB_t, wantB_f, Bool.and_eq_true, Bool.not_eq_true', Bool.or_eq_false_iff, decide_eq_true_eq, decide_eq_false_iff_not, beq_iff_eq, beq_eq_false_iff_ne, bne_iff_ne, bne_eq_false_iff_eq, Int.not_lt, Int.not_le, Int.ofNat_lt, Int.ofNat_le] at hQz); first | trivial)))
 | (apply st_c; (case hc => (simp only [go_sem, *] <;> rfl)); (case hl => (simp only [go_sem, *] <;> rfl)); (case hn => (simp only [go_sem, *] <;> rfl)); (case hp => first | exact c0 | (have hXz := c0; simp only [go_sem, *] at hXz; exact hXz)))
 | (apply st_c; (case hc => (simp only [go_sem, *] <;> rfl)); (case hl => (simp only [go_sem, *] <;> rfl)); (case hn => (simp only [go_sem, *] <;> rfl)); (case hp => first | exact c2 | (have hXz := c2; simp only [go_sem, *] at hXz; exact hXz)))
 | (refine Awp.ret ?_; try simp only [go_sem, *])
 | (refine Awp.skip ?_; try simp only [go_sem, *])
 | (apply Awp.cond; (case hc => (simp only [go_sem, *] <;> rfl)); all_goals (intro hg; (try simp only [Bool.not_true, Bool.not_false, reduceCtorEq] at hg)))
 | refine Awp.seq ?_
 | (apply sl_a; (case hc => rfl); (case he => (simp only [go_sem, *] <;> rfl)); (case hu => (simp only [updL_nil, updL_cons] <;> rfl)); (case hl => (simp only [List.map_cons, List.map_nil] <;> rfl)); (case hp => first | trivial | (simp; done) | (simp; omega) | ((repeat' (refine And.intro ?_ ?_)) <;> first | trivial | assumption | omega | (simp; done) | (simp; omega) | (simp [*]; done))))
 | (apply sl_gu; (case hv => (simp only [go_sem, *] <;> rfl)))
 | (apply sl_gn; (case hv => (simp only [go_sem, *] <;> rfl)); (case hbw => rfl))
 | (apply sl_ga; (case hb => rfl); (case hv => (simp only [go_sem, *] <;> rfl)); (case he => (simp only [go_sem, *] <;> rfl)); (case hu => (simp only [updL_nil, updL_cons] <;> rfl)); (case hl => (simp only [List.map_cons, List.map_nil] <;> rfl)); (case hp => first | trivial))
 | (apply sl_cg; (case hop => rfl); (case hv => (simp only [go_sem, *] <;> rfl)); (case hc => (simp only [go_sem, *] <;> rfl)); (case hl => (simp only [go_sem, *] <;> rfl)); (case hn => (simp only [go_sem, *] <;> rfl)); (case hp => first | exact aw | (have hXz := aw; simp only [go_sem, *] at hXz; exact hXz)); (case hd => first | exact .inl rfl | exact .inr (.v _) | exact .inr .any | exact .inr .nils | (refine .inr ?_; (repeat' (first | exact Dry.v _ | exact Dry.any | exact Dry.nils | exact Dry.slE | refine Dry.agg ?_ | refine Dry.tup ?_ | (refine List.forall_mem_cons.2 (And.intro ?_ ?_)) | (intro cQ hQ; cases hQ; done))); done)); (case hm => first | decide | (simp; done)))
 | (apply sl_c; (case hc => (simp only [go_sem, *] <;> rfl)); (case hl => (simp only [go_sem, *] <;> rfl)); (case hn => (simp only [go_sem, *] <;> rfl)); (case hp => first | exact c1 | (have hXz := c1; simp only [go_sem, *] at hXz; exact hXz)); (case hd => first | exact .inl rfl | exact .inr (.v _) | exact .inr .any | exact .inr .nils | (refine .inr ?_; (repeat' (first | exact Dry.v _ | exact Dry.any | exact Dry.nils | exact Dry.slE | refine Dry.agg ?_ | refine Dry.tup ?_ | (refine List.forall_mem_cons.2 (And.intro ?_ ?_)) | (intro cQ hQ; cases hQ; done))); done)); (case hm => first | decide | (simp; done)))
 | (apply sl_cg; (case hop => rfl); (case hv => (simp only [go_sem, *] <;> rfl)); (case hc => (simp only [go_sem, *] <;> rfl)); (case hl => (simp only [go_sem, *] <;> rfl)); (case hn => (simp only [go_sem, *] <;> rfl)); (case hp => first | exact a0 | (have hXz := a0; simp only [go_sem, *] at hXz; exact hXz)); (case hd => first | exact .inl rfl | exact .inr (.v _) | exact .inr .any | exact .inr .nils | (refine .inr ?_; (repeat' (first | exact Dry.v _ | exact Dry.any | exact Dry.nils | exact Dry.slE | refine Dry.agg ?_ | refine Dry.tup ?_ | (refine List.forall_mem_cons.2 (And.intro ?_ ?_)) | (intro cQ hQ; cases hQ; done))); done)); (case hm => first | decide | (simp; done)))
 | (apply sl_cg; (case hop => rfl); (case hv => (simp only [go_sem, *] <;> rfl)); (case hc => (simp only [go_sem, *] <;> rfl)); (case hl => (simp only [go_sem, *] <;> rfl)); (case hn => (simp only [go_sem, *] <;> rfl)); (case hp => first | exact a1 | (have hXz := a1; simp only [go_sem, *] at hXz; exact hXz)); (case hd => first | exact .inl rfl | exact .inr (.v _) | exact .inr .any | exact .inr .nils | (refine .inr ?_; (repeat' (first | exact Dry.v _ | exact Dry.any | exact Dry.nils | exact Dry.slE | refine Dry.agg ?_ | refine Dry.tup ?_ | (refine List.forall_mem_cons.2 (And.intro ?_ ?_)) | (intro cQ hQ; cases hQ; done))); done)); (case hm => first | decide | (simp; done)))
 | (refine sl_nil (And.intro (by first | exact drawOk_of (by decide +kernel) | (simp only [List.map_cons, List.map_nil]; exact drawOk_of (by decide +kernel)) | decide) ?_)))
      all_goals repeat' (first | exact Lower.bool (by first | rfl | (simp only [true_and, Bool.true_and, Bool.false_and, Bool.and_true, Bool.and_false, Bool.true_or, Bool.false_or, reduceIte, Bool.false_eq_true, *]; done) | (simp only [true_and, reduceIte, Bool.false_eq_true, *] <;> rfl) | (simp [true_and]; done) | (simp_all [true_and]; done) | omega))
    · obtain ⟨_, hle2⟩ := h2 rfl
      have d2 : decide (A2 ≤ A0) = true := decide_eq_true hle2
      clear h1 h2 hle hle2
      refine fn_pure Try.F8 (Nat.le_of_ble_eq_true rfl) ?_; unfold Try.ac8
      repeat' (first
 | (apply Awp.sreg; (case hn => (simp only [List.length_cons, List.length_nil, Nat.reduceAdd] <;> rfl)))
 | (apply Awp.sdraw; (case hn => (simp only [List.length_cons, List.length_nil, Nat.reduceAdd] <;> rfl)))
 | (refine st_nil ?_)
 | (apply st_a; (case hc => rfl); (case he => (simp only [go_sem, *] <;> rfl)); (case hu => (simp only [updL_nil, updL_cons] <;> rfl)); (case hp => first | trivial))
 | (apply st_m; (case hc => rfl); (case hg => (simp only [go_sem, *] <;> rfl)); (case he => (intro hQz; (try simp only [wantB_t, wantB_f, Bool.and_eq_true, Bool.not_eq_true', Bool.not_true, Bool.not_false, and_true, true_and] at hQz); simp only [go_sem, *] <;> rfl)); (case hp => (intro hQz; (try simp only [wantB_t, wantB_f, Bool.and_eq_true, Bool.not_eq_true', Bool.or_eq_false_iff, decide_eq_true_eq, decide_eq_false_iff_not, beq_iff_eq, beq_eq_false_iff_ne, bne_iff_ne, bne_eq_false_iff_eq, Int.not_lt, Int.not_le, Int.ofNat_lt, Int.ofNat_le] at hQz); first | trivial)))
 | (apply st_c; (case hc => (simp only [go_sem, *] <;> rfl)); (case hl => (simp only [go_sem, *] <;> rfl)); (case hn => (simp only [go_sem, *] <;> rfl)); (case hp => first | exact c0 | (have hXz := c0; simp only [go_sem, *] at hXz; exact hXz)))
 | (apply st_c; (case hc => (simp only [go_sem, *] <;> rfl)); (case hl => (simp only [go_sem, *] <;> rfl)); (case hn => (simp only [go_sem, *] <;> rfl)); (case hp => first | exact c2 | (have hXz := c2; simp only [go_sem, *] at hXz; exact hXz)))
 | (refine Awp.ret ?_; try simp only [go_sem, *])
 | (refine Awp.skip ?_; try simp only [go_sem, *])
 | (apply Awp.cond; (case hc => (simp only [go_sem, *] <;> rfl)); all_goals (intro hg; (try simp only [Bool.not_true, Bool.not_false, reduceCtorEq] at hg)))
 | refine Awp.seq ?_
 | (apply sl_a; (case hc => rfl); (case he => (simp only [go_sem, *] <;> rfl)); (case hu => (simp only [updL_nil, updL_cons] <;> rfl)); (case hl => (simp only [List.map_cons, List.map_nil] <;> rfl)); (case hp => first | trivial | (simp; done) | (simp; omega) | ((repeat' (refine And.intro ?_ ?_)) <;> first | trivial | assumption | omega | (simp; done) | (simp; omega) | (simp [*]; done))))
 | (apply sl_ga; (case hb => rfl); (case hv => (simp only [go_sem, *] <;> rfl)); (case he => (simp only [go_sem, *] <;> rfl)); (case hu => (simp only [updL_nil, updL_cons] <;> rfl)); (case hl => (simp only [List.map_cons, List.map_nil] <;> rfl)); (case hp => first | trivial))
 | (apply sl_cg; (case hop => rfl); (case hv => (simp only [go_sem, *] <;> rfl)); (case hc => (simp only [go_sem, *] <;> rfl)); (case hl => (simp only [go_sem, *] <;> rfl)); (case hn => (simp only [go_sem, *] <;> rfl)); (case hp => first | exact aw | (have hXz := aw; simp only [go_sem, *] at hXz; exact hXz)); (case hd => first | exact .inl rfl | exact .inr (.v _) | exact .inr .any | exact .inr .nils | (refine .inr ?_; (repeat' (first | exact Dry.v _ | exact Dry.any | exact Dry.nils | exact Dry.slE | refine Dry.agg ?_ | refine Dry.tup ?_ | (refine List.forall_mem_cons.2 (And.intro ?_ ?_)) | (intro cQ hQ; cases hQ; done))); done)); (case hm => first | decide | (simp; done)))
 | (apply sl_c; (case hc => (simp only [go_sem, *] <;> rfl)); (case hl => (simp only [go_sem, *] <;> rfl)); (case hn => (simp only [go_sem, *] <;> rfl)); (case hp => first | exact c1 | (have hXz := c1; simp only [go_sem, *] at hXz; exact hXz)); (case hd => first | exact .inl rfl | exact .inr (.v _) | exact .inr .any | exact .inr .nils | (refine .inr ?_; (repeat' (first | exact Dry.v _ | exact Dry.any | exact Dry.nils | exact Dry.slE | refine Dry.agg ?_ | refine Dry.tup ?_ | (refine List.forall_mem_cons.2 (And.intro ?_ ?_)) | (intro cQ hQ; cases hQ; done))); done)); (case hm => first | decide | (simp; done)))
 | (apply sl_cg; (case hop => rfl); (case hv => (simp only [go_sem, *] <;> rfl)); (case hc => (simp only [go_sem, *] <;> rfl)); (case hl => (simp only [go_sem, *] <;> rfl)); (case hn => (simp only [go_sem, *] <;> rfl)); (case hp => first | exact a0 | (have hXz := a0; simp only [go_sem, *] at hXz; exact hXz)); (case hd => first | exact .inl rfl | exact .inr (.v _) | exact .inr .any | exact .inr .nils | (refine .inr ?_; (repeat' (first | exact Dry.v _ | exact Dry.any | exact Dry.nils | exact Dry.slE | refine Dry.agg ?_ | refine Dry.tup ?_ | (refine List.forall_mem_cons.2 (And.intro ?_ ?_)) | (intro cQ hQ; cases hQ; done))); done)); (case hm => first | decide | (simp; done)))
 | (apply sl_cg; (case hop => rfl); (case hv => (simp only [go_sem, *] <;> rfl)); (case hc => (simp only [go_sem, *] <;> rfl)); (case hl => (simp only [go_sem, *] <;> rfl)); (case hn => (simp only [go_sem, *] <;> rfl)); (case hp => first | exact a1 | (have hXz := a1; simp only [go_sem, *] at hXz; exact hXz)); (case hd => first | exact .inl rfl | exact .inr (.v _) | exact .inr .any | exact .inr .nils | (refine .inr ?_; (repeat' (first | exact Dry.v _ | exact Dry.any | exact Dry.nils | exact Dry.slE | refine Dry.agg ?_ | refine Dry.tup ?_ | (refine List.forall_mem_cons.2 (And.intro ?_ ?_)) | (intro cQ hQ; cases hQ; done))); done)); (case hm => first | decide | (simp; done)))
 | (apply sl_cg; (case hop => rfl); (case hv => (simp only [go_sem, *] <;> rfl)); (case hc => (simp only [go_sem, *] <;> rfl)); (case hl => (simp only [go_sem, *] <;> rfl)); (case hn => (simp only [go_sem, *] <;> rfl)); (case hp => first | exact a2 | (have hXz := a2; simp only [go_sem, *] at hXz; exact hXz)); (case hd => first | exact .inl rfl | exact .inr (.v _) | exact .inr .any | exact .inr .nils | (refine .inr ?_; (repeat' (first | exact Dry.v _ | exact Dry.any | exact Dry.nils | exact Dry.slE | refine Dry.agg ?_ | refine Dry.tup ?_ | (refine List.forall_mem_cons.2 (And.intro ?_ ?_)) | (intro cQ hQ; cases hQ; done))); done)); (case hm => first | decide | (simp; done)))
 | (refine sl_nil (And.intro (by first | exact drawOk_of (by decide +kernel) | (simp only [List.map_cons, List.map_nil]; exact drawOk_of (by decide +kernel)) | decide) ?_)))
      all_goals repeat' (first | exact Lower.bool (by first | rfl | (simp only [true_and, Bool.true_and, Bool.false_and, Bool.and_true, Bool.and_false, Bool.true_or, Bool.false_or, reduceIte, Bool.false_eq_true, *]; done) | (simp only [true_and, reduceIte, Bool.false_eq_true, *] <;> rfl) | (simp [true_and]; done) | (simp_all [true_and]; done) | omega))
end Go.Proofs
end
section
set_option linter.unusedVariables false
set_option linter.unusedSimpArgs false
namespace Go.Ab
open Go.ChangeShapes Go.WideShapes Go.RowKit

theorem Keeps.below {W W' : World} (h : Keeps W W') : Below W.heap.size W W' := ⟨h.os, h.tape, h.out, h.size, h.heap⟩

section
variable {H : Type} {enc : TypeId × Value → H} {P : Program}

theorem trodAll_keeps (hl : laidOutB P = true) {W W' : World} {sp : Nat → Bool} (hb : Below W.heap.size W W') :
    ∀ {ts : List TypeId} {vs : List Value} {ds : List (DataW H)} {ps : List MemPlace}, (∀ t ∈ ts, P.readableRec t = true ∧ t < P.types.size) → (∀ x ∈ ps, x.block < W.heap.size) → (∀ x ∈ ps, sp x.block = true) →
      DataW.TrodAll enc P W 0 (fun _ => true) true ts vs ds ps → DataW.TrodAll enc P W' 0 sp true ts vs ds ps
  | [], _, _, _, _, _, _, h => by
    obtain ⟨rfl, rfl, rfl⟩ := trodAll_nil h
    exact trodAll_mk0
  | t :: ts, _, _, _, hts, hlt, hsp, h => by
    obtain ⟨v, vs, d, ds, a, b, rfl, rfl, rfl, h1, h2⟩ := trodAll_cons h
    obtain ⟨hr, hrow⟩ := hts t (List.mem_cons.2 (.inl rfl))
    refine trodAll_cons_mk (WideElems.Trod_stays hl hr hrow h1 (fun x hx => hb.same (hlt x ?_)) (fun x hx => hsp x ?_)) (trodAll_keeps hl hb (fun u hu => hts u (List.mem_cons.2 (.inr hu))) (fun x hx => hlt x ?_) (fun x hx => hsp x ?_) h2)
    all_goals simp [hx]

theorem post_true {f : Func} {s : ChangeSpec} {apart fresh handsOn again : Bool} {W W' : World} {args : Array Value} {ds gs : List (DataW H)} {before : List MemPlace} {tb : TypeId}
    (hl : laidOutB P = true) (htb' : (f.params.toList.all fun t => P.readableRec t && decide (t < P.types.size)) = true) (hrt : f.resultTypes = #[tb]) (htb : P.underlying tb = some .bool) (hs : s.vars = [])
    (hW : DataW.Whole enc P f.params.toList s.vars apart W args.toList ds gs before) (hb : Below W.heap.size W W')
    (hf : (s.fn H (ds ++ gs)).results = [.lit (.bool true)] ∧ (s.fn H (ds ++ gs)).args = ds ∧ (s.fn H (ds ++ gs)).vars = []) :
    s.post enc P f apart fresh handsOn again W args (.bool true) W' := by
  have hts : ∀ t ∈ f.params.toList, P.readableRec t = true ∧ t < P.types.size := fun t ht => by simpa using List.all_eq_true.1 htb' t ht
  have hW' := hW
  obtain ⟨p, q, hA, hV, hpq, hz, hn⟩ := hW
  have hV0 : gs = [] ∧ q = [] := by rw [hs] at hV; exact trodVars_none hV
  obtain ⟨rfl, rfl⟩ := hV0
  obtain rfl : before = p := by simpa using hpq
  obtain ⟨f1, f2, f3⟩ := hf
  have hlt : ∀ x ∈ before, x.block < W.heap.size := fun x hx => hW'.lt x hx
  have hargs : ∀ sp : Nat → Bool, (∀ x ∈ before, sp x.block = true) → DataW.TrodAll enc P W' 0 sp true f.params.toList args.toList (s.fn H (ds ++ [])).args before := fun sp hsp => by
    rw [f2]; exact trodAll_keeps hl hb hts hlt hsp hA
  have hvars : ∀ sp : Nat → Bool, DataW.TrodVars enc P W' sp s.vars (s.fn H (ds ++ [])).vars [] := fun sp => by rw [f3, hs]; rfl
  have hres : ∀ (b : Nat) (sp : Nat → Bool) (hd : Bool), DataW.TrodAll enc P W' b sp hd f.resultTypes.toList ((Value.bool true).resultList f.resultTypes.size) (s.fn H (ds ++ [])).results [] := fun b sp hd => by
    rw [f1, hrt]; exact trodAll_cons_mk (shut_bool htb _) trodAll_mk0
  have hold : ∀ x ∈ before, (fun b => decide (b < W.heap.size)) x.block = true := fun x hx => by simpa using hlt x hx
  refine ⟨ds, [], before, [], before, [], hW', hres _ _ _, hargs _ hold, hvars _, World.keptBut_mono (fun x hx => ⟨hx, .inr (by simpa using hx)⟩) (hb.frame (· ∈ before)), fun _ => ⟨?_, _, _, ([] ++ before) ++ [], ⟨[] ++ before, [], trodAll_append (hargs _ fun _ _ => rfl) (hres _ _ _), hvars _, rfl, ?_, ?_⟩, ?_⟩⟩
  · exact ok_one hrt rfl (okWide_bool_mk htb _)
  · intro b off hp
    have hp' : MemPlace.cell b off ∈ before := by simpa using hp
    rw [hb.frozen (p := ⟨b, off, none⟩) (hlt _ hp')]
    exact hz b off hp'
  · intro ha
    simpa using hn ha
  · intro x hx _
    simpa using hx

theorem pargs1 {w : World} {a0 : AV} {c0 : Value} (h0 : PureV (fun g => g < w.heap.size ∧ True) w a0 c0) : PArgs (fun _ => True) w [a0] [c0] :=
  ⟨rfl, fun j hj => by match j, hj with | 0, _ => exact h0⟩
theorem pargs2 {w : World} {a0 a1 : AV} {c0 c1 : Value} (h0 : PureV (fun g => g < w.heap.size ∧ True) w a0 c0) (h1 : PureV (fun g => g < w.heap.size ∧ True) w a1 c1) : PArgs (fun _ => True) w [a0, a1] [c0, c1] :=
  ⟨rfl, fun j hj => by match j, hj with | 0, _ => exact h0 | 1, _ => exact h1⟩
theorem pargs3 {w : World} {a0 a1 a2 : AV} {c0 c1 c2 : Value} (h0 : PureV (fun g => g < w.heap.size ∧ True) w a0 c0) (h1 : PureV (fun g => g < w.heap.size ∧ True) w a1 c1) (h2 : PureV (fun g => g < w.heap.size ∧ True) w a2 c2) : PArgs (fun _ => True) w [a0, a1, a2] [c0, c1, c2] :=
  ⟨rfl, fun j hj => by match j, hj with | 0, _ => exact h0 | 1, _ => exact h1 | 2, _ => exact h2⟩
/-- A contract that says 'true', at a call whose arguments read so: the row's 'post'. -/
theorem calls_true {f : Func} {fid : FuncId} {s : ChangeSpec} {apart fresh handsOn again : Bool} {W : World} {asz : List AV} {cs : List Value} {ds gs : List (DataW H)} {before : List MemPlace} {tb : TypeId}
    (hl : laidOutB P = true) (htb' : (f.params.toList.all fun t => P.readableRec t && decide (t < P.types.size)) = true) (hrt : f.resultTypes = #[tb]) (htb : P.underlying tb = some .bool) (hs : s.vars = [])
    (hW : DataW.Whole enc P f.params.toList s.vars apart W cs.toArray.toList ds gs before) (hf : (s.fn H (ds ++ gs)).results = [.lit (.bool true)] ∧ (s.fn H (ds ++ gs)).args = ds ∧ (s.fn H (ds ++ gs)).vars = [])
    (hc : Pure P fid asz (.v (.bool true))) (ha : PArgs (fun _ => True) W asz cs) :
    Calls P fid cs.toArray W fun e W' => ∃ v, e = .returned v ∧ s.post enc P f apart fresh handsOn again W cs.toArray v W' := by
  refine (hc.2 _ W cs ha).mono fun e W' ⟨c, he, hk, hv⟩ => ?_
  obtain rfl : c = .bool true := by cases hv; rfl
  exact ⟨_, he, post_true hl htb' hrt htb hs hW hk.below hf⟩
end
end Go.Ab
end
section
set_option linter.unusedVariables false
set_option linter.unusedSimpArgs false
namespace Go.Ab
open Go.ChangeShapes Go.WideShapes Go.RowKit

/-- Fields that lie one behind the other. -/
def tiledTo (P : Program) (off : Nat) : List Field → Nat → Bool
  | [], e => off == e
  | f :: fs, e => f.offset == off && tiledTo P (off + P.cellsOf f.type) fs e

def readsTy (P : Program) : Nat → TypeId → Bool
  | 0, _ => false
  | n + 1, t => match P.underlying t with
    | some (.int _) | some .bool | some .string => P.cellsOf t == 1
    | some (.struct fs) => tiledTo P 0 fs.toList (P.cellsOf t) && fs.toList.all fun f => readsTy P n f.type
    | some (.slice e) => P.cellsOf t == 1 && decide (0 < P.cellsOf e) && readsTy P n e
    | some (.array k e) => P.cellsOf t == k * P.cellsOf e && readsTy P n e
    | _ => false

def FieldsShape (S : TypeId → List AV → Prop) : List TypeId → List AV → Prop
  | [], asz => asz = []
  | t :: ts, asz => ∃ p q, asz = p ++ q ∧ S t p ∧ FieldsShape S ts q

/-- The cells of a value of a type. -/
def Shape (P : Program) : Nat → TypeId → List AV → Prop
  | 0, _, _ => False
  | n + 1, t, asz => match P.underlying t with
    | some (.int k) => ∃ i, asz = [.v (.int k i)] ∧ (Lit.int k i).wf = true
    | some .bool => ∃ b, asz = [.v (.bool b)]
    | some .string => ∃ s : ByteArray, asz = [.v (.string s)] ∧ s.size ≤ maxLen
    | some (.struct fs) => FieldsShape (Shape P n) (fs.toList.map (·.type)) asz
    | some (.slice e) => ∃ es, asz = [.sl es] ∧ es.length ≤ maxLen ∧ ∀ r ∈ es, Shape P n e r
    | some (.array k e) => ∃ rs : List (List AV), asz = rs.flatten ∧ rs.length = k ∧ ∀ r ∈ rs, Shape P n e r
    | _ => False

theorem av_append_left {p q : List AV} {j : Nat} (h : j < p.length) : av (p ++ q) j = av p j := by
  simp [av, List.getD_eq_getElem?_getD, List.getElem?_append_left h]
theorem av_append_right {p q : List AV} {j : Nat} (h : p.length ≤ j) : av (p ++ q) j = av q (j - p.length) := by
  simp [av, List.getD_eq_getElem?_getD, List.getElem?_append_right h]
theorem cv_piece {cs : List Value} {o k j : Nat} (h : j < k) : cv ((cs.drop o).take k) j = cv cs (o + j) := by
  simp [cv, List.getD_eq_getElem?_getD, List.getElem?_take_of_lt h, List.getElem?_drop]

theorem lists {α : Type} {Q : Nat → α → Prop} : ∀ (n : Nat), (∀ i, i < n → ∃ a, Q i a) → ∃ l : List α, l.length = n ∧ ∀ i a, l[i]? = some a → Q i a
  | 0, _ => ⟨[], rfl, fun i a h => by simp at h⟩
  | n + 1, h => by
    obtain ⟨l, hl, hq⟩ := lists n fun i hi => h i (by omega)
    obtain ⟨a, ha⟩ := h n (by omega)
    refine ⟨l ++ [a], by simp [hl], fun i b hb => ?_⟩
    rcases Nat.lt_or_ge i n with hi | hi
    · rw [List.getElem?_append_left (by omega)] at hb; exact hq i b hb
    · rw [List.getElem?_append_right (by omega)] at hb
      by_cases e : i - l.length = 0
      · rw [e] at hb
        obtain rfl : a = b := by simpa using hb
        obtain rfl : i = n := by omega
        exact ha
      · rw [List.getElem?_eq_none (by simp; omega)] at hb; simp at hb

def CellsOk (w : World) (asz : List AV) (cs : List Value) (o : Nat) : Prop :=
  ∀ j, j < asz.length → PureV (fun g => g < w.heap.size) w (av asz j) (cv cs (o + j)) ∧ (cv cs (o + j)).oneCell' = true

theorem CellsOk.append {w : World} {p q : List AV} {cs : List Value} {o : Nat} (h1 : CellsOk w p cs o) (h2 : CellsOk w q cs (o + p.length)) : CellsOk w (p ++ q) cs o := by
  intro j hj
  rcases Nat.lt_or_ge j p.length with h | h
  · rw [av_append_left h]; exact h1 j h
  · rw [av_append_right h]
    have := h2 (j - p.length) (by simp at hj; omega)
    rwa [show o + p.length + (j - p.length) = o + j by omega] at this

section
variable {H : Type} {enc : TypeId × Value → H} {P : Program} {w : World} {spare : Nat → Bool} {held : Bool}

theorem read_fields {S : TypeId → List AV → Prop} {cs : List Value} : ∀ (fs : List Field) (o e : Nat), tiledTo P o fs e = true → e ≤ cs.length →
    (∀ f ∈ fs, ∃ asz, S f.type asz ∧ asz.length = P.cellsOf f.type ∧ CellsOk w asz cs f.offset) → ∃ asz, FieldsShape S (fs.map (·.type)) asz ∧ o + asz.length = e ∧ CellsOk w asz cs o
  | [], o, e, ht, _, _ => ⟨[], rfl, by simpa [tiledTo] using ht, fun j hj => by simp at hj⟩
  | f :: fs, o, e, ht, he, hf => by
    simp only [tiledTo, Bool.and_eq_true, beq_iff_eq] at ht
    obtain ⟨p, hp, hpl, hpc⟩ := hf f (List.mem_cons.2 (.inl rfl))
    obtain ⟨q, hq, hql, hqc⟩ := read_fields fs _ e ht.2 he fun g hg => hf g (List.mem_cons.2 (.inr hg))
    rw [ht.1] at hpc
    rw [← hpl] at hqc hql
    exact ⟨p ++ q, ⟨p, q, rfl, hp, hq⟩, by simp; omega, hpc.append hqc⟩

theorem read_rows {S : List AV → Prop} {cs : List Value} {sz : Nat} : ∀ (k o : Nat),
    (∀ i, i < k → ∃ asz, S asz ∧ asz.length = sz ∧ CellsOk w asz cs (o + i * sz)) → ∃ rs : List (List AV), rs.length = k ∧ (∀ r ∈ rs, S r) ∧ rs.flatten.length = k * sz ∧ CellsOk w rs.flatten cs o
  | 0, o, _ => ⟨[], rfl, by simp, by simp, fun j hj => by simp at hj⟩
  | k + 1, o, h => by
    obtain ⟨p, hp, hpl, hpc⟩ := h 0 (by omega)
    obtain ⟨rs, hl, hs, hf, hc⟩ := read_rows k (o + sz) fun i hi => by
      obtain ⟨asz, h1, h2, h3⟩ := h (i + 1) (by omega)
      exact ⟨asz, h1, h2, by rwa [show o + sz + i * sz = o + (i + 1) * sz by rw [Nat.add_mul]; omega]⟩
    refine ⟨p :: rs, by simp [hl], fun r hr => ?_, by simp [hf, hpl, Nat.add_mul, Nat.add_comm], ?_⟩
    · rcases List.mem_cons.1 hr with rfl | hr
      · exact hp
      · exact hs r hr
    · simp only [List.flatten_cons]
      refine CellsOk.append (by simpa using hpc) (by rw [hpl]; exact hc)

theorem read_ty : ∀ (n : Nat) (t : TypeId), readsTy P n t = true → ∀ {fuel : Nat} {cs : List Value} {x : DataW H × List MemPlace}, DataW.trod enc P w 0 spare held fuel t cs = some x →
    cs.length = P.cellsOf t ∧ ∃ asz, Shape P n t asz ∧ asz.length = cs.length ∧ CellsOk w asz cs 0
  | 0, t, ht, _, _, _, _ => by simp [readsTy] at ht
  | n + 1, t, ht, fuel, cs, x, h => by
    unfold readsTy at ht
    unfold Shape
    split at ht
    · rename_i k hu
      obtain ⟨i, rfl, _, hw⟩ := DataW.trod_int hu h
      exact ⟨by simpa using (by simpa using ht : P.cellsOf t = 1).symm, _, ⟨i, rfl, hw⟩, rfl, fun j hj => by match j, hj with | 0, _ => exact ⟨.v _, rfl⟩⟩
    · rename_i hu
      obtain ⟨b, rfl, _⟩ := DataW.trod_bool hu h
      exact ⟨by simpa using (by simpa using ht : P.cellsOf t = 1).symm, _, ⟨b, rfl⟩, rfl, fun j hj => by match j, hj with | 0, _ => exact ⟨.v _, rfl⟩⟩
    · rename_i hu
      obtain ⟨s, rfl, _, hw⟩ := DataW.trod_string hu h
      exact ⟨by simpa using (by simpa using ht : P.cellsOf t = 1).symm, _, ⟨s, rfl, hw⟩, rfl, fun j hj => by match j, hj with | 0, _ => exact ⟨.v _, rfl⟩⟩
    · rename_i fs hu
      simp only [Bool.and_eq_true, List.all_eq_true] at ht
      obtain ⟨xs, m, _, _, hl, hlen, hf⟩ := DataW.trod_struct hu h
      refine ⟨hl, ?_⟩
      obtain ⟨asz, h1, h2, h3⟩ := read_fields (S := Shape P n) (w := w) (cs := cs) fs.toList 0 (P.cellsOf t) ht.1 (by omega) fun f hfm => by
        obtain ⟨i, hi, hfi⟩ := List.getElem_of_mem hfm
        have hi' : i < fs.size := by simpa using hi
        have e1 : fs[i]? = some f := by rw [Array.getElem?_eq_getElem hi']; simpa using hfi
        have h4 := hf i f e1
        obtain ⟨y, hy⟩ : ∃ y, xs[i]? = some y := ⟨_, List.getElem?_eq_getElem (by omega)⟩
        rw [hy] at h4
        obtain ⟨k1, asz, k2, k3, k4⟩ := read_ty n f.type (ht.2 f hfm) h4
        refine ⟨asz, k2, by omega, fun j hj => ?_⟩
        have := k4 j hj
        rw [Nat.zero_add, cv_piece (by omega)] at this
        exact this
      exact ⟨asz, h1, by omega, h3⟩
    · rename_i e hu
      simp only [Bool.and_eq_true, decide_eq_true_eq, beq_iff_eq] at ht
      rcases DataW.trod_slice hu h with ⟨rfl, _⟩ | ⟨a, len, cap, elems, rest, m, _, rfl, _, hb, hl, hm, hlen, hel, _, _⟩
      · exact ⟨by simpa using ht.1.1.symm, _, ⟨[], rfl, by simp, by simp⟩, rfl, fun j hj => by match j, hj with | 0, _ => exact ⟨.slE none 0 (by simp), rfl⟩⟩
      · refine ⟨by simpa using ht.1.1.symm, ?_⟩
        have each : ∀ i, i < len → ∃ asz : List AV × List Value, Shape P n e asz.1 ∧ asz.1.length = P.cellsOf e ∧ (∀ j, j < P.cellsOf e → w.cell? ((a.add (i * P.cellsOf e)).add j) = some (cv asz.2 j)) ∧ CellsOk w asz.1 asz.2 0 := by
          intro i hi
          have h4 := hel i hi
          obtain ⟨y, hy⟩ : ∃ y, elems[i]? = some y := ⟨_, List.getElem?_eq_getElem (by omega)⟩
          rw [hy, Option.bind_eq_some_iff] at h4
          obtain ⟨cs', hc, ht'⟩ := h4
          obtain ⟨k1, asz, k2, k3, k4⟩ := read_ty n e ht.2 ht'
          obtain ⟨_, hcl, hca⟩ := World.cells?_some hc
          refine ⟨(asz, cs'), k2, by simp; omega, fun j hj => ?_, k4⟩
          rw [hca j hj]
          have : j < cs'.length := by omega
          simp [cv, List.getD_eq_getElem?_getD, this]
        obtain ⟨l, hll, hlq⟩ := lists len each
        by_cases h0 : len = 0
        · subst h0
          exact ⟨_, ⟨[], rfl, by simp, by simp⟩, rfl, fun j hj => by match j, hj with | 0, _ => exact ⟨.slE (some a) cap hm, rfl⟩⟩
        · have hg0 := (hlq 0 _ (List.getElem?_eq_getElem (by omega))).2.2.1 0 ht.1.2
          obtain ⟨g, off, q⟩ := a
          have hq : q = none ∧ g < w.heap.size := by
            have e0 : ((Addr.mk g off q).add (0 * P.cellsOf e)).add 0 = ⟨g, off, q⟩ := by simp [Addr.add]
            rw [e0] at hg0
            unfold World.cell? at hg0
            cases hg : w.heap[g]? with
            | none => simp [hg] at hg0
            | some o =>
              refine ⟨?_, (Array.getElem?_eq_some_iff.1 hg).1⟩
              cases q with
              | none => rfl
              | some v => cases o <;> simp [hg] at hg0
          obtain ⟨rfl, hlt⟩ := hq
          have hes : (l.map (·.1)).length = len := by simp [hll]
          have at_ : ∀ i (hi : i < len), ∃ asz, l[i]? = some asz ∧ (l.map (·.1)).getD i [] = asz.1 ∧ (fun i j => cv ((l.map (·.2)).getD i []) j) i = cv asz.2 := by
            intro i hi
            refine ⟨l[i]'(by omega), List.getElem?_eq_getElem (by omega), ?_, ?_⟩
            · simp [List.getD_eq_getElem?_getD, List.getElem?_eq_getElem (show i < l.length by omega)]
            · funext j
              simp [List.getD_eq_getElem?_getD, List.getElem?_eq_getElem (show i < l.length by omega)]
          have hp := PureV.slC (st := fun g => g < w.heap.size) (w := w) (l.map (·.1)) g off cap (P.cellsOf e) (fun i j => cv ((l.map (·.2)).getD i []) j) (by omega) hm ht.1.2 (fun e' => by rw [e'] at hes; simp at hes; omega)
            (fun r hr => by
              obtain ⟨asz, has, rfl⟩ := List.mem_map.1 hr
              obtain ⟨i, hi⟩ := List.getElem?_of_mem has
              exact (hlq i asz hi).2.1)
            hlt
            (fun i j hi hj => by
              obtain ⟨asz, ha, e1, e2⟩ := at_ i (by omega)
              have h5 := (hlq i asz ha).2.2.1 j hj
              have h6 := ((hlq i asz ha).2.2.2 j (by rw [(hlq i asz ha).2.1]; exact hj)).2
              rw [Nat.zero_add] at h6
              have e3 : cv ((l.map (·.2)).getD i []) j = cv asz.2 j := congrFun e2 j
              show w.cell? _ = some (cv ((l.map (·.2)).getD i []) j) ∧ (cv ((l.map (·.2)).getD i []) j).oneCell' = true
              rw [e3]
              refine ⟨?_, h6⟩
              rw [← h5]
              congr 1
              simp only [Addr.add]
              split <;> split <;> simp_all <;> omega)
            (fun i j hi hj => by
              obtain ⟨asz, ha, e1, e2⟩ := at_ i (by omega)
              have h6 := ((hlq i asz ha).2.2.2 j (by rw [(hlq i asz ha).2.1]; exact hj)).1
              rw [Nat.zero_add] at h6
              have e3 : cv ((l.map (·.2)).getD i []) j = cv asz.2 j := congrFun e2 j
              show PureV _ w (av ((l.map (·.1)).getD i []) j) (cv ((l.map (·.2)).getD i []) j)
              rw [e1, e3]
              exact h6)
          rw [hes] at hp
          refine ⟨[.sl (l.map (·.1))], ⟨_, rfl, by omega, fun r hr => ?_⟩, rfl, fun j hj => by match j, hj with | 0, _ => exact ⟨hp, rfl⟩⟩
          obtain ⟨asz, has, rfl⟩ := List.mem_map.1 hr
          obtain ⟨i, hi⟩ := List.getElem?_of_mem has
          exact (hlq i asz hi).1
    · rename_i k e hu
      simp only [Bool.and_eq_true, beq_iff_eq] at ht
      obtain ⟨xs, m, _, _, hl, hlen, hf⟩ := DataW.trod_array hu h
      refine ⟨hl, ?_⟩
      obtain ⟨rs, h1, h2, h3, h4⟩ := read_rows (S := Shape P n e) (w := w) (cs := cs) (sz := P.cellsOf e) k 0 fun i hi => by
        have h4 := hf i hi
        obtain ⟨y, hy⟩ : ∃ y, xs[i]? = some y := ⟨_, List.getElem?_eq_getElem (by omega)⟩
        rw [hy] at h4
        obtain ⟨k1, asz, k2, k3, k4⟩ := read_ty n e ht.2 h4
        refine ⟨asz, k2, by omega, fun j hj => ?_⟩
        have := k4 j hj
        rw [Nat.zero_add, cv_piece (by omega)] at this
        rwa [Nat.zero_add]
      exact ⟨rs.flatten, ⟨rs, rfl, h1, h2⟩, by omega, h4⟩
    · simp at ht

/-- A struct among the arguments. -/
theorem arg_struct {t : TypeId} {fs : Array Field} {r : Reach} {b0 : Nat} {v : Value} {d : DataW H} {p : List MemPlace} (n : Nat) (hu : P.underlying t = some (.struct fs)) (ht : readsTy P n t = true)
    (hval : Value.okWide P w r b0 t v) (hd : DataW.Trod enc P w 0 spare held t v d p) : ∃ asz, Shape P n t asz ∧ PureV (fun g => g < w.heap.size ∧ True) w (.agg asz) v := by
  obtain ⟨fuel, h⟩ := hd
  unfold Value.okWide at hval
  rw [hu] at hval
  obtain ⟨cs, rfl, _, _⟩ := hval
  obtain ⟨_, asz, h1, h2, h3⟩ := read_ty n t ht h
  refine ⟨asz, h1, ?_⟩
  have e : cs = cs.toList.toArray := by simp
  have h2 : asz.length = cs.toList.length := h2
  rw [e]
  refine .agg _ cs.toList h2 (fun u hu => ?_) (fun j hj => ?_)
  · obtain ⟨j, hj, rfl⟩ := List.getElem_of_mem hu
    have := (h3 j (by omega)).2
    rw [Nat.zero_add] at this
    have e2 : cv (Value.agg cs).cells.toList j = cs.toList[j] := by show cv cs.toList j = _; unfold cv; rw [List.getD_eq_getElem?_getD, List.getElem?_eq_getElem hj]; rfl
    rw [e2] at this
    exact this
  · have := (h3 j hj).1
    rw [Nat.zero_add] at this
    exact this.mono fun g hg => ⟨⟨hg, trivial⟩, rfl⟩

theorem arg_int {t : TypeId} {k : IntKind} {r : Reach} {b0 : Nat} {v : Value} {d : DataW H} {p : List MemPlace} (hu : P.underlying t = some (.int k))
    (hval : Value.okWide P w r b0 t v) (hd : DataW.Trod enc P w 0 spare held t v d p) : ∃ i, (Lit.int k i).wf = true ∧ PureV (fun g => g < w.heap.size ∧ True) w (.v (.int k i)) v := by
  obtain ⟨i, rfl, _, _, hw⟩ := open_int hu hval hd
  exact ⟨i, hw, .v _⟩
end

/-- The cells that a datum lays. -/
def laidVals : Nat → DataW Unit → List Value
  | 0, _ => []
  | _ + 1, .lit (.int k n) => [.int k n]
  | _ + 1, .lit (.bool b) => [.bool b]
  | _ + 1, .lit (.string s) => [.string ⟨s.toArray⟩]
  | n + 1, .agg xs => xs.flatMap (laidVals n)
  | _ + 1, _ => []

theorem map_shape {α : Type} {f : α → List AV} : ∀ {es : List (List AV)}, (∀ r ∈ es, ∃ x : α, r = f x) → ∃ l : List α, es = l.map f
  | [], _ => ⟨[], rfl⟩
  | r :: es, h => by
    obtain ⟨x, rfl⟩ := h r (List.mem_cons.2 (.inl rfl))
    obtain ⟨l, rfl⟩ := map_shape (es := es) fun q hq => h q (List.mem_cons.2 (.inr hq))
    exact ⟨x :: l, rfl⟩
end Go.Ab
end
section
set_option linter.unusedVariables false
set_option linter.unusedSimpArgs false
namespace Go.Proofs
open Go Go.Ab Go.ChangeShapes Go.WideShapes Go.ChangeAt Go.RowKit
set_option maxRecDepth 100000
theorem rest_laid : laidOutB Try.prog = true := by kernel_rfl
theorem rest_own : ownKnob Try.prog.godebug = none := by kernel_rfl
theorem shape_pt {qs : List AV} (h : Shape Try.prog 2 30 qs) : ∃ a b : Int, qs = [.v (.int .i64 a), .v (.int .i64 b)] := by
  unfold Shape at h
  rw [Try.underlying30] at h
  simp only [List.map_cons, List.map_nil, FieldsShape] at h
  obtain ⟨_, _, rfl, h0, _, _, rfl, h1, rfl⟩ := h
  unfold Shape at h0 h1
  simp only [Try.underlying3] at h0 h1
  obtain ⟨x0, rfl, _⟩ := h0
  obtain ⟨x1, rfl, _⟩ := h1
  exact ⟨x0, x1, rfl⟩
theorem shape_rc {qs : List AV} (h : Shape Try.prog 3 32 qs) : ∃ x : Rc, AV.agg qs = x.av := by
  unfold Shape at h
  rw [Try.underlying32] at h
  simp only [List.map_cons, List.map_nil, FieldsShape] at h
  obtain ⟨_, _, rfl, h0, _, _, rfl, h1, rfl⟩ := h
  obtain ⟨a, b, rfl⟩ := shape_pt h0
  obtain ⟨c, d, rfl⟩ := shape_pt h1
  exact ⟨⟨a, b, c, d⟩, rfl⟩
theorem shape_rcs {qs : List AV} (h : Shape Try.prog 4 22 qs) : ∃ l : List Rc, qs = [.sl (rcs l)] := by
  unfold Shape at h
  rw [Try.underlying22] at h
  obtain ⟨es, rfl, _, he⟩ := h
  obtain ⟨l, rfl⟩ := map_shape (f := Rc.cells) fun q hq => by
    obtain ⟨x, hx⟩ := shape_rc (he q hq)
    refine ⟨x, ?_⟩
    have : AV.agg q = .agg x.cells := hx
    injection this
  exact ⟨l, rfl⟩
theorem shape_plate {qs : List AV} (h : Shape Try.prog 5 24 qs) : ∃ x : Plate, AV.agg qs = x.av := by
  unfold Shape at h
  rw [Try.underlying24] at h
  simp only [List.map_cons, List.map_nil, FieldsShape] at h
  obtain ⟨_, _, rfl, h0, _, _, rfl, h1, _, _, rfl, h2, _, _, rfl, h3, rfl⟩ := h
  obtain ⟨l, rfl⟩ := shape_rcs h2
  unfold Shape at h0 h1 h3
  simp only [Try.underlying3] at h0 h1 h3
  obtain ⟨x0, rfl, _⟩ := h0
  obtain ⟨x1, rfl, _⟩ := h1
  obtain ⟨x3, rfl, _⟩ := h3
  exact ⟨⟨x0, x1, l, x3⟩, rfl⟩
section
variable {H : Type} {enc : TypeId × Value → H} {w : World} {spare : Nat → Bool} {held : Bool} {r : Reach} {b0 : Nat} {v : Value} {d : DataW H} {p : List MemPlace}
theorem arg_plate (hval : Value.okWide Try.prog w r b0 24 v) (hd : DataW.Trod enc Try.prog w 0 spare held 24 v d p) : ∃ x : Plate, PureV (fun g => g < w.heap.size ∧ True) w x.av v := by
  obtain ⟨qs, hs, hp⟩ := arg_struct 5 Try.underlying24 (by kernel_rfl) hval hd
  obtain ⟨x, e⟩ := shape_plate hs
  exact ⟨x, e ▸ hp⟩
theorem arg_rc (hval : Value.okWide Try.prog w r b0 32 v) (hd : DataW.Trod enc Try.prog w 0 spare held 32 v d p) : ∃ x : Rc, PureV (fun g => g < w.heap.size ∧ True) w x.av v := by
  obtain ⟨qs, hs, hp⟩ := arg_struct 3 Try.underlying32 (by kernel_rfl) hval hd
  obtain ⟨x, e⟩ := shape_rc hs
  exact ⟨x, e ▸ hp⟩
end
theorem u16_in {i : Int} (h : (Lit.int .u16 i).wf = true) : 0 ≤ i ∧ i < 65536 := by
  simp [Lit.wf, IntKind.min, IntKind.max, IntKind.signed, IntKind.bits] at h
  omega
/-- The settled world. -/
noncomputable def laidWorld (os : Os) : World := World.holding Try.prog os ⟨#[], #[], []⟩
end Go.Proofs
end
