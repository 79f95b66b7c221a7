import Derived.Test.YtpmcoiomcjgehaaLawA
import Derived.Test.YtpmcoiomcjgehaaLayB
section
set_option linter.unusedVariables false
set_option linter.unusedSimpArgs false
namespace Go.Proofs
open Go Go.Ab
set_option maxHeartbeats 4000000
set_option maxRecDepth 100000
set_option linter.unusedSimpArgs false
set_option linter.unusedVariables false
attribute [local irreducible] Awp aops aopsL Go.Ab.Pure PureOwn
theorem gapsL_ok (l : List Sp) (w : Sp) : Pure Try.prog 4 [.sl (sps l), w.av] (.v (.bool true)) := by
  by_cases h : 60 < l.length
  · have c0 := large_one h
    refine fn_pure Try.F4 (Nat.le_of_ble_eq_true rfl) ?_; unfold Try.ac4
    repeat' (first
    | (apply Awp.sreg; (case hn => (simp only [List.length_cons, List.length_nil, Nat.reduceAdd] <;> rfl)))
    | (apply Awp.sdraw; (case hn => (simp only [List.length_cons, List.length_nil, Nat.reduceAdd] <;> rfl)))
    | (refine st_nil ?_)
    | (apply st_a; (case hc => rfl); (case he => (simp only [go_sem, *] <;> rfl)); (case hu => (simp only [updL_nil, updL_cons] <;> rfl)); (case hp => first | trivial | assumption | omega | (simp; done) | (simp; omega) | (simp [*]; done) | ((repeat' (refine And.intro ?_ ?_)) <;> first | trivial | assumption | omega | (simp; done) | (simp; omega) | (simp [*]; done))))
    | (refine Awp.ret ?_; try simp only [go_sem, *])
    | (apply sl_a; (case hc => rfl); (case he => (simp only [go_sem, *] <;> rfl)); (case hu => (simp only [updL_nil, updL_cons] <;> rfl)); (case hl => (simp only [List.map_cons, List.map_nil] <;> rfl)); (case hp => first | trivial | assumption | omega | (simp; done) | (simp; omega) | (simp [*]; done) | ((repeat' (refine And.intro ?_ ?_)) <;> first | trivial | assumption | omega | (simp; done) | (simp; omega) | (simp [*]; done))))
    | (apply sl_gu; (case hv => (simp only [go_sem, *] <;> rfl)))
    | (apply sl_gn; (case hv => (simp only [go_sem, *] <;> rfl)); (case hbw => rfl))
    | (apply sl_c; (case hc => (simp only [go_sem, *] <;> rfl)); (case hl => (simp only [go_sem, *] <;> rfl)); (case hn => (simp only [go_sem, *] <;> rfl)); (case hp => first | exact c0 | (have hXz := c0; simp only [go_sem, *] at hXz; exact hXz)); (case hd => first | exact .inl rfl | exact .inr (.v _) | exact .inr .any | exact .inr .nils); (case hm => first | decide | (simp; done)))
    | (apply sl_cg; (case hop => rfl); (case hv => (simp only [go_sem, *] <;> rfl)); (case hc => (simp only [go_sem, *] <;> rfl)); (case hl => (simp only [go_sem, *] <;> rfl)); (case hn => (simp only [go_sem, *] <;> rfl)); (case hp => first | exact awake_ok | (have hXz := awake_ok; simp only [go_sem, *] at hXz; exact hXz)); (case hd => first | exact .inl rfl | exact .inr (.v _) | exact .inr .any | exact .inr .nils); (case hm => first | decide | (simp; done)))
    | (refine sl_nil (And.intro (by first | exact drawOk_of (by decide +kernel) | (simp only [List.map_cons, List.map_nil]; exact drawOk_of (by decide +kernel)) | decide) ?_)))
    all_goals repeat' (first | exact Lower.bool (by first | rfl | (simp only [true_and, Bool.true_and, Bool.false_and, Bool.and_true, Bool.and_false, Bool.true_or, Bool.false_or, reduceIte, Bool.false_eq_true, *]; done) | (simp only [true_and, reduceIte, Bool.false_eq_true, *] <;> rfl) | (simp [true_and]; done) | (simp_all [true_and]; done) | omega))
  · have c0 := small_one h
    have c1 := ggaps_ok l w (by omega)
    have c2 := rgaps_ok l w (by omega)
    have c3 := same_ok (minusL [w] l) (by have := minus_len [w] l; simp at this; omega)
    generalize minusL [w] l = g at *
    clear h
    refine fn_pure Try.F4 (Nat.le_of_ble_eq_true rfl) ?_; unfold Try.ac4
    repeat' (first
    | (apply Awp.sreg; (case hn => (simp only [List.length_cons, List.length_nil, Nat.reduceAdd] <;> rfl)))
    | (apply Awp.sdraw; (case hn => (simp only [List.length_cons, List.length_nil, Nat.reduceAdd] <;> rfl)))
    | (refine st_nil ?_)
    | (apply st_a; (case hc => rfl); (case he => (simp only [go_sem, *] <;> rfl)); (case hu => (simp only [updL_nil, updL_cons] <;> rfl)); (case hp => first | trivial | assumption | omega | (simp; done) | (simp; omega) | (simp [*]; done) | ((repeat' (refine And.intro ?_ ?_)) <;> first | trivial | assumption | omega | (simp; done) | (simp; omega) | (simp [*]; done))))
    | (refine Awp.ret ?_; try simp only [go_sem, *])
    | (apply sl_a; (case hc => rfl); (case he => (simp only [go_sem, *] <;> rfl)); (case hu => (simp only [updL_nil, updL_cons] <;> rfl)); (case hl => (simp only [List.map_cons, List.map_nil] <;> rfl)); (case hp => first | trivial | assumption | omega | (simp; done) | (simp; omega) | (simp [*]; done) | ((repeat' (refine And.intro ?_ ?_)) <;> first | trivial | assumption | omega | (simp; done) | (simp; omega) | (simp [*]; done))))
    | (apply sl_gn; (case hv => (simp only [go_sem, *] <;> rfl)); (case hbw => rfl))
    | (apply sl_ga; (case hb => rfl); (case hv => (simp only [go_sem, *] <;> rfl)); (case he => (simp only [go_sem, *] <;> rfl)); (case hu => (simp only [updL_nil, updL_cons] <;> rfl)); (case hl => (simp only [List.map_cons, List.map_nil] <;> rfl)); (case hp => first | trivial | assumption | omega | (simp; done) | (simp; omega) | (simp [*]; done) | ((repeat' (refine And.intro ?_ ?_)) <;> first | trivial | assumption | omega | (simp; done) | (simp; omega) | (simp [*]; done))))
    | (apply sl_c; (case hc => (simp only [go_sem, *] <;> rfl)); (case hl => (simp only [go_sem, *] <;> rfl)); (case hn => (simp only [go_sem, *] <;> rfl)); (case hp => first | exact c0 | (have hXz := c0; simp only [go_sem, *] at hXz; exact hXz)); (case hd => first | exact .inl rfl | exact .inr (.v _) | exact .inr .any | exact .inr .nils); (case hm => first | decide | (simp; done)))
    | (apply sl_cg; (case hop => rfl); (case hv => (simp only [go_sem, *] <;> rfl)); (case hc => (simp only [go_sem, *] <;> rfl)); (case hl => (simp only [go_sem, *] <;> rfl)); (case hn => (simp only [go_sem, *] <;> rfl)); (case hp => first | exact c0 | (have hXz := c0; simp only [go_sem, *] at hXz; exact hXz)); (case hd => first | exact .inl rfl | exact .inr (.v _) | exact .inr .any | exact .inr .nils); (case hm => first | decide | (simp; done)))
    | (apply sl_cog; (case hop => rfl); (case hv => (simp only [go_sem, *] <;> rfl)); (case hc => (simp only [go_sem, *] <;> rfl)); (case hl => (simp only [go_sem, *] <;> rfl)); (case hn => (simp only [go_sem, *] <;> rfl)); (case hp => first | exact c1 | (have hXz := c1; simp only [go_sem, *] at hXz; exact hXz)); (case hd => first | exact sps_dry _ | exact ints_dry _ | (repeat' (first | exact Dry.v _ | exact Dry.any | exact Dry.nils | exact Dry.slE | refine Dry.agg ?_ | refine Dry.tup ?_ | (refine List.forall_mem_cons.2 (And.intro ?_ ?_)) | (intro cQ hQ; cases hQ; done)))); (case hm => first | decide | (simp; done)))
    | (apply sl_cog; (case hop => rfl); (case hv => (simp only [go_sem, *] <;> rfl)); (case hc => (simp only [go_sem, *] <;> rfl)); (case hl => (simp only [go_sem, *] <;> rfl)); (case hn => (simp only [go_sem, *] <;> rfl)); (case hp => first | exact c2 | (have hXz := c2; simp only [go_sem, *] at hXz; exact hXz)); (case hd => first | exact sps_dry _ | exact ints_dry _ | (repeat' (first | exact Dry.v _ | exact Dry.any | exact Dry.nils | exact Dry.slE | refine Dry.agg ?_ | refine Dry.tup ?_ | (refine List.forall_mem_cons.2 (And.intro ?_ ?_)) | (intro cQ hQ; cases hQ; done)))); (case hm => first | decide | (simp; done)))
    | (apply sl_cg; (case hop => rfl); (case hv => (simp only [go_sem, *] <;> rfl)); (case hc => (simp only [go_sem, *] <;> rfl)); (case hl => (simp only [go_sem, *] <;> rfl)); (case hn => (simp only [go_sem, *] <;> rfl)); (case hp => first | exact c3 | (have hXz := c3; simp only [go_sem, *] at hXz; exact hXz)); (case hd => first | exact .inl rfl | exact .inr (.v _) | exact .inr .any | exact .inr .nils); (case hm => first | decide | (simp; done)))
    | (apply sl_cg; (case hop => rfl); (case hv => (simp only [go_sem, *] <;> rfl)); (case hc => (simp only [go_sem, *] <;> rfl)); (case hl => (simp only [go_sem, *] <;> rfl)); (case hn => (simp only [go_sem, *] <;> rfl)); (case hp => first | exact awake_ok | (have hXz := awake_ok; simp only [go_sem, *] at hXz; exact hXz)); (case hd => first | exact .inl rfl | exact .inr (.v _) | exact .inr .any | exact .inr .nils); (case hm => first | decide | (simp; done)))
    | (refine sl_nil (And.intro (by first | exact drawOk_of (by decide +kernel) | (simp only [List.map_cons, List.map_nil]; exact drawOk_of (by decide +kernel)) | decide) ?_)))
    all_goals repeat' (first | exact Lower.bool (by first | rfl | (simp only [true_and, Bool.true_and, Bool.false_and, Bool.and_true, Bool.and_false, Bool.true_or, Bool.false_or, reduceIte, Bool.false_eq_true, *]; done) | (simp only [true_and, reduceIte, Bool.false_eq_true, *] <;> rfl) | (simp [true_and]; done) | (simp_all [true_and]; done) | omega))
end Go.Proofs
end
