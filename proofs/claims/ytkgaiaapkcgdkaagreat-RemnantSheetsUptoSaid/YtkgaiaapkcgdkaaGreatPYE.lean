import Derived.Test.YtkgaiaapkcgdkaaGreatPYD
section
set_option linter.unusedVariables false
set_option linter.unusedSimpArgs false
namespace Go.Proofs
open Go Go.Ab
set_option maxHeartbeats 8000000
set_option maxRecDepth 100000
attribute [local irreducible] Awp aops aopsL Go.Ab.Pure PureOwn
def orL : List Int → Int
  | [] => 0
  | x :: l => if (x != 0) = true then x else orL l
theorem orL_none : ∀ (l : List Int), (∀ j, j < l.length → (l.getD j 0 != 0) = false) → orL l = 0
  | [], _ => rfl
  | x :: l, h => by
    have h0 := h 0 (by simp)
    rw [List.getD_cons_zero] at h0
    rw [orL, h0, if_neg (by decide)]
    exact orL_none l fun j hj => by have := h (j + 1) (by simpa using hj); simpa using this
theorem orL_some : ∀ (l : List Int) (i : Nat), i < l.length → (l.getD i 0 != 0) = true → (∀ j, j < i → (l.getD j 0 != 0) = false) → orL l = l.getD i 0
  | x :: l, 0, _, h, _ => by
    rw [List.getD_cons_zero] at h ⊢
    rw [orL, if_pos h]
  | x :: l, i + 1, hi, h, hj => by
    have h0 := hj 0 (by omega)
    rw [List.getD_cons_zero] at h0
    rw [orL, h0, if_neg (by decide), List.getD_cons_succ]
    exact orL_some l i (by simpa using hi) (by simpa using h) fun j hji => by have := hj (j + 1) (by omega); simpa using this
theorem or_ok (l : List Int) (hl : l.length < 1000000) : Pure Tryz.prog 26 [.sl (ints l)] (.v (.int .i64 (orL l))) := by
  refine fn_pure Tryz.F26 (Nat.le_of_ble_eq_true rfl) ?_; unfold Tryz.ac26
  repeat' (first
 | (apply Awp.sreg; (case hn => (simp only [List.length_cons, List.length_nil, Nat.reduceAdd] <;> rfl)))
 | (refine st_nil ?_)
 | (apply st_a; (case hc => rfl); (case he => (simp only [go_sem, *] <;> rfl)); (case hu => (simp only [updL_nil, updL_cons] <;> rfl)); (case hp => first | trivial))
 | refine Awp.block ?_
 | refine Awp.seq ?_)
  refine Awp.loop (fun i : Nat => i ≤ l.length ∧ ∀ j, j < i → (l.getD j 0 != 0) = false) 60 (fun i => mkS [(3, .v (.int .i64 0)), (6, .sl (ints l)), (7, .v (.int .i64 l.length)), (8, .v (.int .i64 i))] []) (fun i => l.length - i) 0 (by simp) ?_ ?_
  · (apply Ghost.mk [] []; (case hdead => rfl); (case hinj => rfl); (case hV => (simp only [go_sem, *]) <;> (repeat' (first | exact View.int (by first | rfl | omega | (simp; done) | (rw [wrap_i64] <;> (try simp only [Int.natCast_add]) <;> omega) | (simp [*]; done))))); (case hB => (simp only [go_sem, *]) <;> (repeat' (first | skip; done))))
  · intro i ⟨hi, hj⟩
    by_cases hlt : i < l.length
    · have hlt' : (i : Int) < l.length := by omega
      have hat := ints_at l i hlt
      cases hv : (l.getD i 0 != 0)
      · have hnx := ltSucc (P := fun j => (l.getD j 0 != 0) = false) hj hv
        clear hj
        repeat' (first
 | (apply Awp.sreg; (case hn => (simp only [List.length_cons, List.length_nil, Nat.reduceAdd] <;> rfl)))
 | (refine st_nil ?_)
 | (apply st_a; (case hc => rfl); (case he => (simp only [go_sem, *] <;> rfl)); (case hu => (simp only [updL_nil, updL_cons] <;> rfl)); (case hp => first | trivial | omega))
 | (apply Awp.reg; (case hn => (simp only [List.length_cons, List.length_nil, Nat.reduceAdd] <;> rfl)))
 | (refine Awp.skip ?_; try simp only [go_sem, *])
 | refine Awp.block ?_
 | (apply Awp.cond; (case hc => (simp only [go_sem, *] <;> rfl)); all_goals (intro hg; (try simp only [Bool.not_true, Bool.not_false, reduceCtorEq] at hg)))
 | refine Awp.seq ?_)
        all_goals (refine ⟨i + 1, ⟨by omega, hnx⟩, by omega, ?_⟩; clear hnx; (apply Ghost.mk [] []; (case hdead => rfl); (case hinj => rfl); (case hV => (simp only [go_sem, *]) <;> (repeat' (first | exact View.int (by first | rfl | omega | (simp; done) | (rw [wrap_i64] <;> (try simp only [Int.natCast_add]) <;> omega) | (simp [*]; done))))); (case hB => (simp only [go_sem, *]) <;> (repeat' (first | skip; done)))))
      · rw [orL_some l i hlt hv hj]
        clear hj
        repeat' (first
 | (apply Awp.sreg; (case hn => (simp only [List.length_cons, List.length_nil, Nat.reduceAdd] <;> rfl)))
 | (refine st_nil ?_)
 | (apply st_a; (case hc => rfl); (case he => (simp only [go_sem, *] <;> rfl)); (case hu => (simp only [updL_nil, updL_cons] <;> rfl)); (case hp => first | trivial | omega))
 | (refine Awp.ret ?_; try simp only [go_sem, *])
 | (refine Awp.skip ?_; try simp only [go_sem, *])
 | refine Awp.block ?_
 | (apply Awp.cond; (case hc => (simp only [go_sem, *] <;> rfl)); all_goals (intro hg; (try simp only [Bool.not_true, Bool.not_false, reduceCtorEq] at hg)))
 | refine Awp.seq ?_)
        all_goals repeat' (first | exact Lower.int (by first | rfl | (simp only [true_and, Bool.true_and, Bool.false_and, Bool.and_true, Bool.and_false, Bool.true_or, Bool.false_or, reduceIte, Bool.false_eq_true, *]; done) | (simp only [true_and, reduceIte, Bool.false_eq_true, *] <;> rfl) | (simp [true_and]; done) | (simp_all [true_and]; done) | omega))
    · have hlt' : ¬ (i : Int) < l.length := by omega
      rw [orL_none l fun j h => hj j (by omega)]
      clear hj
      repeat' (first
 | (apply Awp.sreg; (case hn => (simp only [List.length_cons, List.length_nil, Nat.reduceAdd] <;> rfl)))
 | (refine st_nil ?_)
 | (apply st_a; (case hc => rfl); (case he => (simp only [go_sem, *] <;> rfl)); (case hu => (simp only [updL_nil, updL_cons] <;> rfl)); (case hp => first | trivial))
 | (refine Awp.ret ?_; try simp only [go_sem, *])
 | (refine Awp.exit ?_; try simp only [go_sem, *])
 | (apply Awp.cond; (case hc => (simp only [go_sem, *] <;> rfl)); all_goals (intro hg; (try simp only [Bool.not_true, Bool.not_false, reduceCtorEq] at hg)))
 | refine Awp.seq ?_)
      all_goals repeat' (first | exact Lower.int (by first | rfl | (simp only [true_and, Bool.true_and, Bool.false_and, Bool.and_true, Bool.and_false, Bool.true_or, Bool.false_or, reduceIte, Bool.false_eq_true, *]; done) | (simp only [true_and, reduceIte, Bool.false_eq_true, *] <;> rfl) | (simp [true_and]; done) | (simp_all [true_and]; done) | omega))
def cmpB (x y : Rc) : Int := orL [areaZ y - areaZ x, x.b - y.b, x.a - y.a, y.c - x.c]
theorem cmpB_lt (x y : Rc) : decide (cmpB x y < 0) = betterB x y := by
  unfold cmpB betterB
  simp only [orL, bne_iff_ne, ne_eq]
  generalize areaZ x = A
  generalize areaZ y = B
  rw [Bool.eq_iff_iff, decide_eq_true_eq]
  repeat' split
  all_goals (simp only [decide_eq_true_eq]; omega)
theorem ints4 (a b c d : Int) : [[AV.v (.int .i64 a)], [AV.v (.int .i64 b)], [AV.v (.int .i64 c)], [AV.v (.int .i64 d)]] = ints [a, b, c, d] := rfl
theorem cmp33_ok (x y : Rc) (hx : Small x) (hy : Small y) : Pure Tryz.prog 28 [x.av, y.av] (.v (.int .i64 (cmpB x y))) := by
  have a1 := area_ok x hx
  have a2 := area_ok y hy
  have s1 := area_small hx
  have s2 := area_small hy
  have h1 := hx.a; have h2 := hx.b; have h3 := hx.c; have h4 := hy.a; have h5 := hy.b; have h6 := hy.c
  have w1 : IntKind.i64.wrap (areaZ y - areaZ x) = areaZ y - areaZ x := wrap_i64 (by omega) (by omega)
  have w2 : IntKind.i64.wrap (x.b - y.b) = x.b - y.b := wrap_i64 (by omega) (by omega)
  have w3 : IntKind.i64.wrap (x.a - y.a) = x.a - y.a := wrap_i64 (by omega) (by omega)
  have w4 : IntKind.i64.wrap (y.c - x.c) = y.c - x.c := wrap_i64 (by omega) (by omega)
  have o := or_ok [areaZ y - areaZ x, x.b - y.b, x.a - y.a, y.c - x.c] (by simp)
  rw [← ints4] at o
  unfold cmpB
  generalize orL [areaZ y - areaZ x, x.b - y.b, x.a - y.a, y.c - x.c] = R at *
  clear hx hy s1 s2 h1 h2 h3 h4 h5 h6
  generalize areaZ x = A at *
  generalize areaZ y = B at *
  refine fn_pure Tryz.F28 (Nat.le_of_ble_eq_true rfl) ?_; unfold Tryz.ac28
  repeat' (first
 | (apply Awp.sreg; (case hn => (simp only [List.length_cons, List.length_nil, Nat.reduceAdd] <;> rfl)))
 | (apply Awp.sdraw; (case hn => (simp only [List.length_cons, List.length_nil, Nat.reduceAdd] <;> rfl)))
 | (refine st_nil ?_)
 | (apply st_a; (case hc => rfl); (case he => (simp only [go_sem, *] <;> rfl)); (case hu => (simp only [updL_nil, updL_cons] <;> rfl)); (case hp => first | trivial))
 | (refine Awp.ret ?_; try simp only [go_sem, *])
 | (apply sl_a; (case hc => rfl); (case he => (simp only [go_sem, *] <;> rfl)); (case hu => (simp only [updL_nil, updL_cons] <;> rfl)); (case hl => (simp only [List.map_cons, List.map_nil] <;> rfl)); (case hp => first | trivial | (simp; done)))
 | (apply sl_c; (case hc => (simp only [go_sem, *] <;> rfl)); (case hl => (simp only [go_sem, *] <;> rfl)); (case hn => (simp only [go_sem, *] <;> rfl)); (case hp => first | exact a1 | (have hXz := a1; simp only [go_sem, *] at hXz; exact hXz)); (case hd => first | exact .inl rfl | exact .inr (.v _) | exact .inr .any | exact .inr .nils | (refine .inr ?_; (repeat' (first | exact Dry.v _ | exact Dry.any | exact Dry.nils | exact Dry.slE | refine Dry.agg ?_ | refine Dry.tup ?_ | (refine List.forall_mem_cons.2 (And.intro ?_ ?_)) | (intro cQ hQ; cases hQ; done))); done)); (case hm => first | decide | (simp; done)))
 | (apply sl_c; (case hc => (simp only [go_sem, *] <;> rfl)); (case hl => (simp only [go_sem, *] <;> rfl)); (case hn => (simp only [go_sem, *] <;> rfl)); (case hp => first | exact a2 | (have hXz := a2; simp only [go_sem, *] at hXz; exact hXz)); (case hd => first | exact .inl rfl | exact .inr (.v _) | exact .inr .any | exact .inr .nils | (refine .inr ?_; (repeat' (first | exact Dry.v _ | exact Dry.any | exact Dry.nils | exact Dry.slE | refine Dry.agg ?_ | refine Dry.tup ?_ | (refine List.forall_mem_cons.2 (And.intro ?_ ?_)) | (intro cQ hQ; cases hQ; done))); done)); (case hm => first | decide | (simp; done)))
 | (apply sl_c; (case hc => (simp only [go_sem, *] <;> rfl)); (case hl => (simp only [go_sem, *] <;> rfl)); (case hn => (simp only [go_sem, *] <;> rfl)); (case hp => first | exact o | (have hXz := o; simp only [go_sem, *] at hXz; exact hXz)); (case hd => first | exact .inl rfl | exact .inr (.v _) | exact .inr .any | exact .inr .nils | (refine .inr ?_; (repeat' (first | exact Dry.v _ | exact Dry.any | exact Dry.nils | exact Dry.slE | refine Dry.agg ?_ | refine Dry.tup ?_ | (refine List.forall_mem_cons.2 (And.intro ?_ ?_)) | (intro cQ hQ; cases hQ; done))); done)); (case hm => first | decide | (simp; done)))
 | (refine sl_nil (And.intro (by first | exact drawOk_of (by decide +kernel) | (simp only [List.map_cons, List.map_nil]; exact drawOk_of (by decide +kernel)) | decide) ?_)))
  all_goals repeat' (first | exact Lower.int (by first | rfl | (simp only [true_and, Bool.true_and, Bool.false_and, Bool.and_true, Bool.and_false, Bool.true_or, Bool.false_or, reduceIte, Bool.false_eq_true, *]; done) | (simp only [true_and, reduceIte, Bool.false_eq_true, *] <;> rfl) | (simp [true_and]; done) | (simp_all [true_and]; done) | omega))
theorem best_step (l : List Rc) (i : Nat) (h : i < l.length) : (l.take (i + 1)).foldl stepB (l.getD 0 zeroRc) = stepB ((l.take i).foldl stepB (l.getD 0 zeroRc)) (l.getD i zeroRc) := by
  rw [take_snoc l zeroRc i h, List.foldl_append]; rfl
theorem fold_in (l : List Rc) (i : Nat) (h0 : l ≠ []) (hs : ∀ r ∈ l, Small r) : Small ((l.take i).foldl stepB (l.getD 0 zeroRc)) := by
  rcases (fold_best (l.take i) (l.getD 0 zeroRc)).2.2 with e | e
  · rw [e]
    exact hs _ (getD_in l zeroRc 0 (List.length_pos_iff.2 h0))
  · exact hs _ (List.mem_of_mem_take e)
theorem min_ok (l : List Rc) (h0 : l ≠ []) (hl : l.length < 1000000) (hs : ∀ r ∈ l, Small r) : Pure Tryz.prog 27 [.sl (rcs l), .fn 28 []] (bestE l).av := by
  have hpos := List.length_pos_iff.2 h0
  have hat0 := rcs_at l 0 hpos
  have hz0 : ((l.getD 0 zeroRc).cells).length = 4 := rfl
  have hlp : ¬ (l.length : Int) < 1 := by omega
  have hp0 : (0 : Int) < l.length := by omega
  have hb1 := (best_take l h0).2
  have hfi := fun i => fold_in l i h0 hs
  have hst := fun i h => best_step l i h
  have hbe : bestE l = (l.take l.length).foldl stepB (l.getD 0 zeroRc) := by rw [List.take_length]; rfl
  rw [hbe]
  clear hbe
  have hin := fun i (h : i < l.length) => hs _ (getD_in l zeroRc i h)
  clear hs h0
  refine fn_pure Tryz.F27 (Nat.le_of_ble_eq_true rfl) ?_; unfold Tryz.ac27
  repeat' (first
 | (apply Awp.sreg; (case hn => (simp only [List.length_cons, List.length_nil, Nat.reduceAdd] <;> rfl)))
 | (refine st_nil ?_)
 | (apply st_a; (case hc => rfl); (case he => (simp only [go_sem, *] <;> rfl)); (case hu => (simp only [updL_nil, updL_cons] <;> rfl)); (case hp => first | trivial))
 | (refine Awp.skip ?_; try simp only [go_sem, *])
 | refine Awp.block ?_
 | (apply Awp.cond; (case hc => (simp only [go_sem, *] <;> rfl)); all_goals (intro hg; (try simp only [Bool.not_true, Bool.not_false, reduceCtorEq] at hg)))
 | refine Awp.seq ?_)
  refine Awp.loop (fun i : Nat => 1 ≤ i ∧ i ≤ l.length) 60 (fun i => mkS [(0, .sl (rcs l)), (1, .fn 28 []), (4, .bp 0 0), (5, .bp 1 0), (6, .v (.int .i64 i))] [(0, .box [.v (.int .i64 0), .v (.int .i64 0), .v (.int .i64 0), .v (.int .i64 0)]), (1, .box ((l.take i).foldl stepB (l.getD 0 zeroRc)).cells)]) (fun i => l.length - i) 1 (by omega) ?_ ?_
  · rw [hb1]
    clear hfi hst hin
    (apply Ghost.mk [(0, 0), (1, 7)] []; (case hdead => rfl); (case hinj => rfl); (case hV => (simp only [go_sem, *]) <;> (repeat' (first | refine And.intro ?_ ?_ | exact View.int (by first | rfl | omega | (simp; done) | (rw [wrap_i64] <;> (try simp only [Int.natCast_add]) <;> omega) | (simp [*]; done)) | exact .bp rfl (by decide) | (refine View.fnF ?_; (simp [AV.flat]; done))))); (case hB => (simp only [go_sem, *]) <;> (repeat' (first | refine And.intro ?_ ?_ | exact ⟨_, rfl, BView.boxF rfl⟩))))
  · intro i ⟨h1, hi⟩
    by_cases hlt : i < l.length
    · have hlt' : (i : Int) < l.length := by omega
      have hat := rcs_at l i hlt
      have hz : ((l.getD i zeroRc).cells).length = 4 := rfl
      have hs := hst i hlt
      have hsm := hfi i
      have hsx := hin i hlt
      clear hfi hst hin hat0 hz0 hb1
      generalize (l.take i).foldl stepB (l.getD 0 zeroRc) = M at *
      generalize l.getD i zeroRc = x at *
      have c1 := cmp33_ok x M hsx hsm
      have hd := cmpB_lt x M
      rw [show stepB M x = if betterB x M = true then x else M from rfl, ← hd] at hs
      clear hsm hsx hd
      generalize cmpB x M = k at *
      cases hk : decide (k < 0)
      · rw [hk, if_neg (by decide)] at hs
        repeat' (first
 | (apply Awp.sreg; (case hn => (simp only [List.length_cons, List.length_nil, Nat.reduceAdd] <;> rfl)))
 | (apply Awp.sdraw; (case hn => (simp only [List.length_cons, List.length_nil, Nat.reduceAdd] <;> rfl)))
 | (refine st_nil ?_)
 | (apply st_a; (case hc => rfl); (case he => (simp only [go_sem, *] <;> rfl)); (case hu => (simp only [updL_nil, updL_cons] <;> rfl)); (case hp => first | trivial))
 | (apply Awp.reg; (case hn => (simp only [List.length_cons, List.length_nil, Nat.reduceAdd] <;> rfl)))
 | (refine Awp.skip ?_; try simp only [go_sem, *])
 | refine Awp.block ?_
 | (apply Awp.cond; (case hc => (simp only [go_sem, *] <;> rfl)); all_goals (intro hg; (try simp only [Bool.not_true, Bool.not_false, reduceCtorEq] at hg)))
 | refine Awp.seq ?_
 | (apply sl_a; (case hc => rfl); (case he => (simp only [go_sem, *] <;> rfl)); (case hu => (simp only [updL_nil, updL_cons] <;> rfl)); (case hl => (simp only [List.map_cons, List.map_nil] <;> rfl)); (case hp => first | trivial | omega))
 | (apply sl_c; (case hc => (simp only [go_sem, *] <;> rfl)); (case hl => (simp only [go_sem, *] <;> rfl)); (case hn => (simp only [go_sem, *] <;> rfl)); (case hp => first | exact c1 | (have hXz := c1; simp only [go_sem, *] at hXz; exact hXz)); (case hd => first | exact .inl rfl | exact .inr (.v _) | exact .inr .any | exact .inr .nils | (refine .inr ?_; (repeat' (first | exact Dry.v _ | exact Dry.any | exact Dry.nils | exact Dry.slE | refine Dry.agg ?_ | refine Dry.tup ?_ | (refine List.forall_mem_cons.2 (And.intro ?_ ?_)) | (intro cQ hQ; cases hQ; done))); done)); (case hm => first | decide | (simp; done)))
 | (refine sl_nil (And.intro (by first | exact drawOk_of (by decide +kernel) | (simp only [List.map_cons, List.map_nil]; exact drawOk_of (by decide +kernel)) | decide) ?_)))
        all_goals (refine ⟨i + 1, by omega, by omega, ?_⟩; rw [hs]; clear hs c1; (apply Ghost.mk [(0, 0), (1, 1)] []; (case hdead => rfl); (case hinj => rfl); (case hV => (simp only [go_sem, *]) <;> (repeat' (first | refine And.intro ?_ ?_ | exact View.int (by first | rfl | omega | (simp; done) | (rw [wrap_i64] <;> (try simp only [Int.natCast_add]) <;> omega) | (simp [*]; done)) | exact .bp rfl (by decide) | (refine View.fnF ?_; (simp [AV.flat]; done))))); (case hB => (simp only [go_sem, *]) <;> (repeat' (first | refine And.intro ?_ ?_ | exact ⟨_, rfl, BView.boxF rfl⟩)))))
      · rw [hk, if_pos rfl] at hs
        repeat' (first
 | (apply Awp.sreg; (case hn => (simp only [List.length_cons, List.length_nil, Nat.reduceAdd] <;> rfl)))
 | (apply Awp.sdraw; (case hn => (simp only [List.length_cons, List.length_nil, Nat.reduceAdd] <;> rfl)))
 | (refine st_nil ?_)
 | (apply st_a; (case hc => rfl); (case he => (simp only [go_sem, *] <;> rfl)); (case hu => (simp only [updL_nil, updL_cons] <;> rfl)); (case hp => first | trivial | omega))
 | (apply Awp.reg; (case hn => (simp only [List.length_cons, List.length_nil, Nat.reduceAdd] <;> rfl)))
 | (refine Awp.skip ?_; try simp only [go_sem, *])
 | refine Awp.block ?_
 | (apply Awp.cond; (case hc => (simp only [go_sem, *] <;> rfl)); all_goals (intro hg; (try simp only [Bool.not_true, Bool.not_false, reduceCtorEq] at hg)))
 | refine Awp.seq ?_
 | (apply sl_a; (case hc => rfl); (case he => (simp only [go_sem, *] <;> rfl)); (case hu => (simp only [updL_nil, updL_cons] <;> rfl)); (case hl => (simp only [List.map_cons, List.map_nil] <;> rfl)); (case hp => first | trivial | omega))
 | (apply sl_c; (case hc => (simp only [go_sem, *] <;> rfl)); (case hl => (simp only [go_sem, *] <;> rfl)); (case hn => (simp only [go_sem, *] <;> rfl)); (case hp => first | exact c1 | (have hXz := c1; simp only [go_sem, *] at hXz; exact hXz)); (case hd => first | exact .inl rfl | exact .inr (.v _) | exact .inr .any | exact .inr .nils | (refine .inr ?_; (repeat' (first | exact Dry.v _ | exact Dry.any | exact Dry.nils | exact Dry.slE | refine Dry.agg ?_ | refine Dry.tup ?_ | (refine List.forall_mem_cons.2 (And.intro ?_ ?_)) | (intro cQ hQ; cases hQ; done))); done)); (case hm => first | decide | (simp; done)))
 | (refine sl_nil (And.intro (by first | exact drawOk_of (by decide +kernel) | (simp only [List.map_cons, List.map_nil]; exact drawOk_of (by decide +kernel)) | decide) ?_)))
        all_goals (refine ⟨i + 1, by omega, by omega, ?_⟩; rw [hs]; clear hs c1; (apply Ghost.mk [(0, 0), (1, 1)] []; (case hdead => rfl); (case hinj => rfl); (case hV => (simp only [go_sem, *]) <;> (repeat' (first | refine And.intro ?_ ?_ | exact View.int (by first | rfl | omega | (simp; done) | (rw [wrap_i64] <;> (try simp only [Int.natCast_add]) <;> omega) | (simp [*]; done)) | exact .bp rfl (by decide) | (refine View.fnF ?_; (simp [AV.flat]; done))))); (case hB => (simp only [go_sem, *]) <;> (repeat' (first | refine And.intro ?_ ?_ | exact ⟨_, rfl, BView.boxF rfl⟩)))))
    · have hlt' : ¬ (i : Int) < l.length := by omega
      have e1 : i = l.length := by omega
      rw [e1] at hlt' ⊢
      clear e1 hfi hst hin hat0 hz0 hb1
      generalize (l.take l.length).foldl stepB (l.getD 0 zeroRc) = M at *
      repeat' (first
 | (apply Awp.sreg; (case hn => (simp only [List.length_cons, List.length_nil, Nat.reduceAdd] <;> rfl)))
 | (refine st_nil ?_)
 | (apply st_a; (case hc => rfl); (case he => (simp only [go_sem, *] <;> rfl)); (case hu => (simp only [updL_nil, updL_cons] <;> rfl)); (case hp => first | trivial))
 | (refine Awp.ret ?_; try simp only [go_sem, *])
 | (refine Awp.exit ?_; try simp only [go_sem, *])
 | (apply Awp.cond; (case hc => (simp only [go_sem, *] <;> rfl)); all_goals (intro hg; (try simp only [Bool.not_true, Bool.not_false, reduceCtorEq] at hg)))
 | refine Awp.seq ?_)
      all_goals repeat' (first | exact Lower.int (by first | rfl | (simp only [true_and, Bool.true_and, Bool.false_and, Bool.and_true, Bool.and_false, Bool.true_or, Bool.false_or, reduceIte, Bool.false_eq_true, *]; done) | (simp only [true_and, reduceIte, Bool.false_eq_true, *] <;> rfl) | (simp [true_and]; done) | (simp_all [true_and]; done) | omega) | refine Lower.aggF ?_ | refine All2.cons ?_ ?_ | exact All2.nil)
theorem better_ok (x y : Rc) (hx : Small x) (hy : Small y) : Pure Tryz.prog 38 [x.av, y.av] (.v (.bool (betterB x y))) := by
  have a1 := rarea_ok x hx
  have a2 := rarea_ok y hy
  unfold betterB
  clear hx hy
  generalize areaZ x = A at *
  generalize areaZ y = B at *
  cases h1 : (A != B)
  · cases h2 : (x.b != y.b)
    · cases h3 : (x.a != y.a)
      · refine fn_pure Tryz.F38 (Nat.le_of_ble_eq_true rfl) ?_; unfold Tryz.ac38
        repeat' (first
 | (apply Awp.sreg; (case hn => (simp only [List.length_cons, List.length_nil, Nat.reduceAdd] <;> rfl)))
 | (apply Awp.sdraw; (case hn => (simp only [List.length_cons, List.length_nil, Nat.reduceAdd] <;> rfl)))
 | (refine st_nil ?_)
 | (apply st_a; (case hc => rfl); (case he => (simp only [go_sem, *] <;> rfl)); (case hu => (simp only [updL_nil, updL_cons] <;> rfl)); (case hp => first | trivial))
 | (refine Awp.ret ?_; try simp only [go_sem, *])
 | (refine Awp.skip ?_; try simp only [go_sem, *])
 | (apply Awp.cond; (case hc => (simp only [go_sem, *] <;> rfl)); all_goals (intro hg; (try simp only [Bool.not_true, Bool.not_false, reduceCtorEq] at hg)))
 | refine Awp.seq ?_
 | (apply sl_a; (case hc => rfl); (case he => (simp only [go_sem, *] <;> rfl)); (case hu => (simp only [updL_nil, updL_cons] <;> rfl)); (case hl => (simp only [List.map_cons, List.map_nil] <;> rfl)); (case hp => first | trivial))
 | (apply sl_c; (case hc => (simp only [go_sem, *] <;> rfl)); (case hl => (simp only [go_sem, *] <;> rfl)); (case hn => (simp only [go_sem, *] <;> rfl)); (case hp => first | exact a1 | (have hXz := a1; simp only [go_sem, *] at hXz; exact hXz)); (case hd => first | exact .inl rfl | exact .inr (.v _) | exact .inr .any | exact .inr .nils | (refine .inr ?_; (repeat' (first | exact Dry.v _ | exact Dry.any | exact Dry.nils | exact Dry.slE | refine Dry.agg ?_ | refine Dry.tup ?_ | (refine List.forall_mem_cons.2 (And.intro ?_ ?_)) | (intro cQ hQ; cases hQ; done))); done)); (case hm => first | decide | (simp; done)))
 | (apply sl_c; (case hc => (simp only [go_sem, *] <;> rfl)); (case hl => (simp only [go_sem, *] <;> rfl)); (case hn => (simp only [go_sem, *] <;> rfl)); (case hp => first | exact a2 | (have hXz := a2; simp only [go_sem, *] at hXz; exact hXz)); (case hd => first | exact .inl rfl | exact .inr (.v _) | exact .inr .any | exact .inr .nils | (refine .inr ?_; (repeat' (first | exact Dry.v _ | exact Dry.any | exact Dry.nils | exact Dry.slE | refine Dry.agg ?_ | refine Dry.tup ?_ | (refine List.forall_mem_cons.2 (And.intro ?_ ?_)) | (intro cQ hQ; cases hQ; done))); done)); (case hm => first | decide | (simp; done)))
 | (refine sl_nil (And.intro (by first | exact drawOk_of (by decide +kernel) | (simp only [List.map_cons, List.map_nil]; exact drawOk_of (by decide +kernel)) | decide) ?_)))
        all_goals repeat' (first | exact Lower.bool (by first | rfl | (simp only [true_and, Bool.true_and, Bool.false_and, Bool.and_true, Bool.and_false, Bool.true_or, Bool.false_or, reduceIte, Bool.false_eq_true, *]; done) | (simp only [true_and, reduceIte, Bool.false_eq_true, *] <;> rfl) | (simp [true_and]; done) | (simp_all [true_and]; done) | omega))
      · refine fn_pure Tryz.F38 (Nat.le_of_ble_eq_true rfl) ?_; unfold Tryz.ac38
        repeat' (first
 | (apply Awp.sreg; (case hn => (simp only [List.length_cons, List.length_nil, Nat.reduceAdd] <;> rfl)))
 | (apply Awp.sdraw; (case hn => (simp only [List.length_cons, List.length_nil, Nat.reduceAdd] <;> rfl)))
 | (refine st_nil ?_)
 | (apply st_a; (case hc => rfl); (case he => (simp only [go_sem, *] <;> rfl)); (case hu => (simp only [updL_nil, updL_cons] <;> rfl)); (case hp => first | trivial))
 | (refine Awp.ret ?_; try simp only [go_sem, *])
 | (refine Awp.skip ?_; try simp only [go_sem, *])
 | (apply Awp.cond; (case hc => (simp only [go_sem, *] <;> rfl)); all_goals (intro hg; (try simp only [Bool.not_true, Bool.not_false, reduceCtorEq] at hg)))
 | refine Awp.seq ?_
 | (apply sl_a; (case hc => rfl); (case he => (simp only [go_sem, *] <;> rfl)); (case hu => (simp only [updL_nil, updL_cons] <;> rfl)); (case hl => (simp only [List.map_cons, List.map_nil] <;> rfl)); (case hp => first | trivial))
 | (apply sl_c; (case hc => (simp only [go_sem, *] <;> rfl)); (case hl => (simp only [go_sem, *] <;> rfl)); (case hn => (simp only [go_sem, *] <;> rfl)); (case hp => first | exact a1 | (have hXz := a1; simp only [go_sem, *] at hXz; exact hXz)); (case hd => first | exact .inl rfl | exact .inr (.v _) | exact .inr .any | exact .inr .nils | (refine .inr ?_; (repeat' (first | exact Dry.v _ | exact Dry.any | exact Dry.nils | exact Dry.slE | refine Dry.agg ?_ | refine Dry.tup ?_ | (refine List.forall_mem_cons.2 (And.intro ?_ ?_)) | (intro cQ hQ; cases hQ; done))); done)); (case hm => first | decide | (simp; done)))
 | (apply sl_c; (case hc => (simp only [go_sem, *] <;> rfl)); (case hl => (simp only [go_sem, *] <;> rfl)); (case hn => (simp only [go_sem, *] <;> rfl)); (case hp => first | exact a2 | (have hXz := a2; simp only [go_sem, *] at hXz; exact hXz)); (case hd => first | exact .inl rfl | exact .inr (.v _) | exact .inr .any | exact .inr .nils | (refine .inr ?_; (repeat' (first | exact Dry.v _ | exact Dry.any | exact Dry.nils | exact Dry.slE | refine Dry.agg ?_ | refine Dry.tup ?_ | (refine List.forall_mem_cons.2 (And.intro ?_ ?_)) | (intro cQ hQ; cases hQ; done))); done)); (case hm => first | decide | (simp; done)))
 | (refine sl_nil (And.intro (by first | exact drawOk_of (by decide +kernel) | (simp only [List.map_cons, List.map_nil]; exact drawOk_of (by decide +kernel)) | decide) ?_)))
        all_goals repeat' (first | exact Lower.bool (by first | rfl | (simp only [true_and, Bool.true_and, Bool.false_and, Bool.and_true, Bool.and_false, Bool.true_or, Bool.false_or, reduceIte, Bool.false_eq_true, *]; done) | (simp only [true_and, reduceIte, Bool.false_eq_true, *] <;> rfl) | (simp [true_and]; done) | (simp_all [true_and]; done) | omega))
    · refine fn_pure Tryz.F38 (Nat.le_of_ble_eq_true rfl) ?_; unfold Tryz.ac38
      repeat' (first
 | (apply Awp.sreg; (case hn => (simp only [List.length_cons, List.length_nil, Nat.reduceAdd] <;> rfl)))
 | (apply Awp.sdraw; (case hn => (simp only [List.length_cons, List.length_nil, Nat.reduceAdd] <;> rfl)))
 | (refine st_nil ?_)
 | (apply st_a; (case hc => rfl); (case he => (simp only [go_sem, *] <;> rfl)); (case hu => (simp only [updL_nil, updL_cons] <;> rfl)); (case hp => first | trivial))
 | (refine Awp.ret ?_; try simp only [go_sem, *])
 | (refine Awp.skip ?_; try simp only [go_sem, *])
 | (apply Awp.cond; (case hc => (simp only [go_sem, *] <;> rfl)); all_goals (intro hg; (try simp only [Bool.not_true, Bool.not_false, reduceCtorEq] at hg)))
 | refine Awp.seq ?_
 | (apply sl_a; (case hc => rfl); (case he => (simp only [go_sem, *] <;> rfl)); (case hu => (simp only [updL_nil, updL_cons] <;> rfl)); (case hl => (simp only [List.map_cons, List.map_nil] <;> rfl)); (case hp => first | trivial))
 | (apply sl_c; (case hc => (simp only [go_sem, *] <;> rfl)); (case hl => (simp only [go_sem, *] <;> rfl)); (case hn => (simp only [go_sem, *] <;> rfl)); (case hp => first | exact a1 | (have hXz := a1; simp only [go_sem, *] at hXz; exact hXz)); (case hd => first | exact .inl rfl | exact .inr (.v _) | exact .inr .any | exact .inr .nils | (refine .inr ?_; (repeat' (first | exact Dry.v _ | exact Dry.any | exact Dry.nils | exact Dry.slE | refine Dry.agg ?_ | refine Dry.tup ?_ | (refine List.forall_mem_cons.2 (And.intro ?_ ?_)) | (intro cQ hQ; cases hQ; done))); done)); (case hm => first | decide | (simp; done)))
 | (apply sl_c; (case hc => (simp only [go_sem, *] <;> rfl)); (case hl => (simp only [go_sem, *] <;> rfl)); (case hn => (simp only [go_sem, *] <;> rfl)); (case hp => first | exact a2 | (have hXz := a2; simp only [go_sem, *] at hXz; exact hXz)); (case hd => first | exact .inl rfl | exact .inr (.v _) | exact .inr .any | exact .inr .nils | (refine .inr ?_; (repeat' (first | exact Dry.v _ | exact Dry.any | exact Dry.nils | exact Dry.slE | refine Dry.agg ?_ | refine Dry.tup ?_ | (refine List.forall_mem_cons.2 (And.intro ?_ ?_)) | (intro cQ hQ; cases hQ; done))); done)); (case hm => first | decide | (simp; done)))
 | (refine sl_nil (And.intro (by first | exact drawOk_of (by decide +kernel) | (simp only [List.map_cons, List.map_nil]; exact drawOk_of (by decide +kernel)) | decide) ?_)))
      all_goals repeat' (first | exact Lower.bool (by first | rfl | (simp only [true_and, Bool.true_and, Bool.false_and, Bool.and_true, Bool.and_false, Bool.true_or, Bool.false_or, reduceIte, Bool.false_eq_true, *]; done) | (simp only [true_and, reduceIte, Bool.false_eq_true, *] <;> rfl) | (simp [true_and]; done) | (simp_all [true_and]; done) | omega))
  · refine fn_pure Tryz.F38 (Nat.le_of_ble_eq_true rfl) ?_; unfold Tryz.ac38
    repeat' (first
 | (apply Awp.sreg; (case hn => (simp only [List.length_cons, List.length_nil, Nat.reduceAdd] <;> rfl)))
 | (apply Awp.sdraw; (case hn => (simp only [List.length_cons, List.length_nil, Nat.reduceAdd] <;> rfl)))
 | (refine st_nil ?_)
 | (apply st_a; (case hc => rfl); (case he => (simp only [go_sem, *] <;> rfl)); (case hu => (simp only [updL_nil, updL_cons] <;> rfl)); (case hp => first | trivial))
 | (refine Awp.ret ?_; try simp only [go_sem, *])
 | (apply Awp.cond; (case hc => (simp only [go_sem, *] <;> rfl)); all_goals (intro hg; (try simp only [Bool.not_true, Bool.not_false, reduceCtorEq] at hg)))
 | refine Awp.seq ?_
 | (apply sl_a; (case hc => rfl); (case he => (simp only [go_sem, *] <;> rfl)); (case hu => (simp only [updL_nil, updL_cons] <;> rfl)); (case hl => (simp only [List.map_cons, List.map_nil] <;> rfl)); (case hp => first | trivial))
 | (apply sl_c; (case hc => (simp only [go_sem, *] <;> rfl)); (case hl => (simp only [go_sem, *] <;> rfl)); (case hn => (simp only [go_sem, *] <;> rfl)); (case hp => first | exact a1 | (have hXz := a1; simp only [go_sem, *] at hXz; exact hXz)); (case hd => first | exact .inl rfl | exact .inr (.v _) | exact .inr .any | exact .inr .nils | (refine .inr ?_; (repeat' (first | exact Dry.v _ | exact Dry.any | exact Dry.nils | exact Dry.slE | refine Dry.agg ?_ | refine Dry.tup ?_ | (refine List.forall_mem_cons.2 (And.intro ?_ ?_)) | (intro cQ hQ; cases hQ; done))); done)); (case hm => first | decide | (simp; done)))
 | (apply sl_c; (case hc => (simp only [go_sem, *] <;> rfl)); (case hl => (simp only [go_sem, *] <;> rfl)); (case hn => (simp only [go_sem, *] <;> rfl)); (case hp => first | exact a2 | (have hXz := a2; simp only [go_sem, *] at hXz; exact hXz)); (case hd => first | exact .inl rfl | exact .inr (.v _) | exact .inr .any | exact .inr .nils | (refine .inr ?_; (repeat' (first | exact Dry.v _ | exact Dry.any | exact Dry.nils | exact Dry.slE | refine Dry.agg ?_ | refine Dry.tup ?_ | (refine List.forall_mem_cons.2 (And.intro ?_ ?_)) | (intro cQ hQ; cases hQ; done))); done)); (case hm => first | decide | (simp; done)))
 | (refine sl_nil (And.intro (by first | exact drawOk_of (by decide +kernel) | (simp only [List.map_cons, List.map_nil]; exact drawOk_of (by decide +kernel)) | decide) ?_)))
    all_goals repeat' (first | exact Lower.bool (by first | rfl | (simp only [true_and, Bool.true_and, Bool.false_and, Bool.and_true, Bool.and_false, Bool.true_or, Bool.false_or, reduceIte, Bool.false_eq_true, *]; done) | (simp only [true_and, reduceIte, Bool.false_eq_true, *] <;> rfl) | (simp [true_and]; done) | (simp_all [true_and]; done) | omega))
theorem maxL_small {len wid : Int} {l : List Rc} {g : Int} : ∀ r ∈ freesE len wid l g, Small r := by
  intro r hr
  unfold freesE at hr
  cases hR : rightB len wid l g
  · rw [hR] at hr; cases hr
  · rw [hR, if_pos rfl] at hr
    obtain ⟨hT, hlen, hwid⟩ := good_of hR
    obtain ⟨hp, _⟩ := (free_iff _ _ _ _ _).1 (max_free ((maxL_mem len wid l g (by omega) (by omega) r).1 hr))
    have := hp.ac; have := hp.bd; have := hp.a0; have := hp.b0; have := hp.cl; have := hp.dw
    exact ⟨by omega, by omega, by omega, by omega⟩
theorem nodup_len {α : Type} : ∀ (l m : List α), l.Pairwise (· ≠ ·) → (∀ x ∈ l, x ∈ m) → l.length ≤ m.length
  | [], m, _, _ => Nat.zero_le _
  | x :: l, m, h, hs => by
    obtain ⟨a, b, rfl⟩ := List.append_of_mem (hs x (by simp))
    have := nodup_len l (a ++ b) h.of_cons fun y hy => by
      have h1 := hs y (by simp [hy])
      have h2 := List.rel_of_pairwise_cons h hy
      simp only [List.mem_append, List.mem_cons] at h1 ⊢
      rcases h1 with h1 | h1 | h1
      · exact .inl h1
      · exact absurd h1.symm h2
      · exact .inr h1
    simp only [List.length_append, List.length_cons] at this ⊢
    omega
theorem frees_len {len wid : Int} {l : List Rc} {g : Int} : (freesE len wid l g).length < 1000000 := by
  unfold freesE
  cases hR : rightB len wid l g
  · rw [if_neg (by decide)]; decide
  · rw [if_pos rfl]
    obtain ⟨hT, hlen, hwid⟩ := good_of hR
    have htl := Nat.le_trans (tkE_lenQ g l) hT.few
    obtain ⟨hS, hSl⟩ := sides_spec (tkE g l) (show 0 < len by omega)
    have hol := own1_len (fun f u => colE wid f u (tkE g l)) (wideB len (tkE g l)) (sidesE len (tkE g l)) (m := 33) (fun f u => Nat.le_trans (col_len wid f u (tkE g l)) (by omega)) (sidesE len (tkE g l)).length
    have hin : ∀ r ∈ maxL len wid l g, r ∈ ownE len wid l g (sidesE len (tkE g l)) := fun r hr => (wide_max (by omega) hS r).2 ((maxL_mem len wid l g (by omega) (by omega) r).1 hr)
    have hnd : (maxL len wid l g).Pairwise (· ≠ ·) := (maxL_asc len wid l g (by omega) (by omega)).imp fun {x y} h => by
      rintro rfl
      exact rcLt_irrefl x h
    have hle := nodup_len _ _ hnd hin
    unfold ownE at hle
    have h2 : (sidesE len (tkE g l)).length ≤ 66 := by omega
    generalize (sidesE len (tkE g l)).length = n at *
    have h3 : n * 33 ≤ 66 * 33 := Nat.mul_le_mul_right 33 h2
    have h4 : n * (n * 33) ≤ 66 * (66 * 33) := Nat.mul_le_mul h2 h3
    omega
def largestE (len wid : Int) (l : List Rc) (g : Int) : Rc × Bool := if (freesE len wid l g).isEmpty = true then (zeroRc, false) else (bestE (freesE len wid l g), true)
theorem largest_ok (len wid : Int) (l : List Rc) (g : Int) : Pure Tryz.prog 13 [.v (.int .i64 len), .v (.int .i64 wid), .sl (rcs l), .v (.int .i64 g)] (.tup [(largestE len wid l g).1.av, .v (.bool (largestE len wid l g).2)]) := by
  have k1 := frees_ok len wid l g
  have hs := maxL_small (len := len) (wid := wid) (l := l) (g := g)
  have hn := frees_len (len := len) (wid := wid) (l := l) (g := g)
  unfold largestE
  generalize freesE len wid l g = M at *
  cases hM : M.isEmpty
  · have h0 : M ≠ [] := fun e => by rw [e] at hM; cases hM
    have hpos := List.length_pos_iff.2 h0
    have k2 := min_ok M h0 hn hs
    have hne : ((M.length : Int) == 0) = false := by rw [beq_eq_false_iff_ne]; omega
    rw [if_neg (by decide)]
    generalize bestE M = r at *
    clear hs h0 hpos hM
    refine fn_pure Tryz.F13 (Nat.le_of_ble_eq_true rfl) ?_; unfold Tryz.ac13
    repeat' (first
 | (apply Awp.sreg; (case hn => (simp only [List.length_cons, List.length_nil, Nat.reduceAdd] <;> rfl)))
 | (refine st_nil ?_)
 | (apply st_a; (case hc => rfl); (case he => (simp only [go_sem, *] <;> rfl)); (case hu => (simp only [updL_nil, updL_cons] <;> rfl)); (case hp => first | trivial))
 | (apply st_c; (case hc => (simp only [go_sem, *] <;> rfl)); (case hl => (simp only [go_sem, *] <;> rfl)); (case hn => (simp only [go_sem, *] <;> rfl)); (case hp => first | exact k1 | (have hXz := k1; simp only [go_sem, *] at hXz; exact hXz)))
 | (apply st_c; (case hc => (simp only [go_sem, *] <;> rfl)); (case hl => (simp only [go_sem, *] <;> rfl)); (case hn => (simp only [go_sem, *] <;> rfl)); (case hp => first | exact k2 | (have hXz := k2; simp only [go_sem, *] at hXz; exact hXz)))
 | (refine Awp.ret ?_; try simp only [go_sem, *])
 | (refine Awp.skip ?_; try simp only [go_sem, *])
 | (apply Awp.cond; (case hc => (simp only [go_sem, *] <;> rfl)); all_goals (intro hg; (try simp only [Bool.not_true, Bool.not_false, reduceCtorEq] at hg)))
 | refine Awp.seq ?_)
    all_goals repeat' (first | exact Lower.bool (by first | rfl | (simp only [true_and, Bool.true_and, Bool.false_and, Bool.and_true, Bool.and_false, Bool.true_or, Bool.false_or, reduceIte, Bool.false_eq_true, *]; done) | (simp only [true_and, reduceIte, Bool.false_eq_true, *] <;> rfl) | (simp [true_and]; done) | (simp_all [true_and]; done) | omega) | exact Lower.int (by first | rfl | (simp only [true_and, Bool.true_and, Bool.false_and, Bool.and_true, Bool.and_false, Bool.true_or, Bool.false_or, reduceIte, Bool.false_eq_true, *]; done) | (simp only [true_and, reduceIte, Bool.false_eq_true, *] <;> rfl) | (simp [true_and]; done) | (simp_all [true_and]; done) | omega) | refine Lower.aggF ?_ | refine Lower.tupF ?_ | refine All2.cons ?_ ?_ | exact All2.nil)
  · have h0 : M = [] := List.isEmpty_iff.1 hM
    subst h0
    rw [if_pos rfl]
    have e1 : rcs [] = [] := rfl
    rw [e1] at k1
    clear hs hM e1
    have hz0 : (((0 : Nat) : Int) == 0) = true := rfl
    unfold zeroRc
    refine fn_pure Tryz.F13 (Nat.le_of_ble_eq_true rfl) ?_; unfold Tryz.ac13
    repeat' (first
 | (apply Awp.sreg; (case hn => (simp only [List.length_cons, List.length_nil, Nat.reduceAdd] <;> rfl)))
 | (refine st_nil ?_)
 | (apply st_a; (case hc => rfl); (case he => (simp only [go_sem, *] <;> rfl)); (case hu => (simp only [updL_nil, updL_cons] <;> rfl)); (case hp => first | trivial))
 | (apply st_c; (case hc => (simp only [go_sem, *] <;> rfl)); (case hl => (simp only [go_sem, *] <;> rfl)); (case hn => (simp only [go_sem, *] <;> rfl)); (case hp => first | exact k1 | (have hXz := k1; simp only [go_sem, *] at hXz; exact hXz)))
 | (refine Awp.ret ?_; try simp only [go_sem, *])
 | (apply Awp.cond; (case hc => (simp only [go_sem, *] <;> rfl)); all_goals (intro hg; (try simp only [Bool.not_true, Bool.not_false, reduceCtorEq] at hg)))
 | refine Awp.seq ?_)
    all_goals repeat' (first | exact Lower.bool (by first | rfl | (simp only [true_and, Bool.true_and, Bool.false_and, Bool.and_true, Bool.and_false, Bool.true_or, Bool.false_or, reduceIte, Bool.false_eq_true, *]; done) | (simp only [true_and, reduceIte, Bool.false_eq_true, *] <;> rfl) | (simp [true_and]; done) | (simp_all [true_and]; done) | omega) | exact Lower.int (by first | rfl | (simp only [true_and, Bool.true_and, Bool.false_and, Bool.and_true, Bool.and_false, Bool.true_or, Bool.false_or, reduceIte, Bool.false_eq_true, *]; done) | (simp only [true_and, reduceIte, Bool.false_eq_true, *] <;> rfl) | (simp [true_and]; done) | (simp_all [true_and]; done) | omega) | refine Lower.aggF ?_ | refine Lower.tupF ?_ | refine All2.cons ?_ ?_ | exact All2.nil)
theorem rlargest_ok (len wid : Int) (l : List Rc) (g : Int) (h6 : rightB len wid l g = true → l.length ≤ 6) (k1 : Pure Tryz.prog 37 [.v (.int .i64 len), .v (.int .i64 wid), .sl (rcs l), .v (.int .i64 g)] (.sl (rcs (freesE len wid l g)))) : Pure Tryz.prog 18 [.v (.int .i64 len), .v (.int .i64 wid), .sl (rcs l), .v (.int .i64 g)] (.tup [(largestE len wid l g).1.av, .v (.bool (largestE len wid l g).2)]) := by
  have hs := maxL_small (len := len) (wid := wid) (l := l) (g := g)
  have hn := frees_len (len := len) (wid := wid) (l := l) (g := g)
  unfold largestE
  clear h6
  generalize freesE len wid l g = M at *
  cases hM : M.isEmpty
  case true =>
    have h0 : M = [] := List.isEmpty_iff.1 hM
    subst h0
    rw [if_pos rfl]
    have e1 : rcs [] = [] := rfl
    rw [e1] at k1
    clear hs hM e1
    have hz0 : (((0 : Nat) : Int) == 0) = true := rfl
    unfold zeroRc
    refine fn_pure Tryz.F18 (Nat.le_of_ble_eq_true rfl) ?_; unfold Tryz.ac18
    repeat' (first
 | (apply Awp.sreg; (case hn => (simp only [List.length_cons, List.length_nil, Nat.reduceAdd] <;> rfl)))
 | (refine st_nil ?_)
 | (apply st_a; (case hc => rfl); (case he => (simp only [go_sem, *] <;> rfl)); (case hu => (simp only [updL_nil, updL_cons] <;> rfl)); (case hp => first | trivial))
 | (apply st_c; (case hc => (simp only [go_sem, *] <;> rfl)); (case hl => (simp only [go_sem, *] <;> rfl)); (case hn => (simp only [go_sem, *] <;> rfl)); (case hp => first | exact k1 | (have hXz := k1; simp only [go_sem, *] at hXz; exact hXz)))
 | (refine Awp.ret ?_; try simp only [go_sem, *])
 | (apply Awp.cond; (case hc => (simp only [go_sem, *] <;> rfl)); all_goals (intro hg; (try simp only [Bool.not_true, Bool.not_false, reduceCtorEq] at hg)))
 | refine Awp.seq ?_)
    all_goals repeat' (first | exact Lower.bool (by first | rfl | (simp only [true_and, Bool.true_and, Bool.false_and, Bool.and_true, Bool.and_false, Bool.true_or, Bool.false_or, reduceIte, Bool.false_eq_true, *]; done) | (simp only [true_and, reduceIte, Bool.false_eq_true, *] <;> rfl) | (simp [true_and]; done) | (simp_all [true_and]; done) | omega) | exact Lower.int (by first | rfl | (simp only [true_and, Bool.true_and, Bool.false_and, Bool.and_true, Bool.and_false, Bool.true_or, Bool.false_or, reduceIte, Bool.false_eq_true, *]; done) | (simp only [true_and, reduceIte, Bool.false_eq_true, *] <;> rfl) | (simp [true_and]; done) | (simp_all [true_and]; done) | omega) | refine Lower.aggF ?_ | refine Lower.tupF ?_ | refine All2.cons ?_ ?_ | exact All2.nil)
  have h0 : M ≠ [] := fun e => by rw [e] at hM; cases hM
  have hpos := List.length_pos_iff.2 h0
  have hne : ((M.length : Int) == 0) = false := by rw [beq_eq_false_iff_ne]; omega
  have hat0 := rcs_at M 0 hpos
  have hz0 : ((M.getD 0 zeroRc).cells).length = 4 := rfl
  have hp0 : (0 : Int) < M.length := by omega
  have hfi := fun i => fold_in M i h0 hs
  have hst := fun i h => best_step M i h
  have hin := fun i (h : i < M.length) => hs _ (getD_in M zeroRc i h)
  have hbe : bestE M = (M.take M.length).foldl stepB (M.getD 0 zeroRc) := by rw [List.take_length]; rfl
  rw [if_neg (by decide), hbe]
  clear hbe hs h0 hM
  refine fn_pure Tryz.F18 (Nat.le_of_ble_eq_true rfl) ?_; unfold Tryz.ac18
  repeat' (first
 | (apply Awp.sreg; (case hn => (simp only [List.length_cons, List.length_nil, Nat.reduceAdd] <;> rfl)))
 | (refine st_nil ?_)
 | (apply st_a; (case hc => rfl); (case he => (simp only [go_sem, *] <;> rfl)); (case hu => (simp only [updL_nil, updL_cons] <;> rfl)); (case hp => first | trivial))
 | (apply st_c; (case hc => (simp only [go_sem, *] <;> rfl)); (case hl => (simp only [go_sem, *] <;> rfl)); (case hn => (simp only [go_sem, *] <;> rfl)); (case hp => first | exact k1 | (have hXz := k1; simp only [go_sem, *] at hXz; exact hXz)))
 | (refine Awp.skip ?_; try simp only [go_sem, *])
 | refine Awp.block ?_
 | (apply Awp.cond; (case hc => (simp only [go_sem, *] <;> rfl)); all_goals (intro hg; (try simp only [Bool.not_true, Bool.not_false, reduceCtorEq] at hg)))
 | refine Awp.seq ?_)
  refine Awp.loop (fun i : Nat => i ≤ M.length) 80 (fun i => mkS [(8, .bp 0 0), (10, .sl (rcs M)), (11, .bp 1 0), (12, .v (.int .i64 i))] [(0, .box [.v (.int .i64 0), .v (.int .i64 0), .v (.int .i64 0), .v (.int .i64 0)]), (1, .box ((M.take i).foldl stepB (M.getD 0 zeroRc)).cells)]) (fun i => M.length - i) 0 (by omega) ?_ ?_
  · rw [List.take_zero, List.foldl_nil]
    clear hfi hst hin k1
    (apply Ghost.mk [(0, 0), (1, 14)] []; (case hdead => rfl); (case hinj => rfl); (case hV => (simp only [go_sem, *]) <;> (repeat' (first | refine And.intro ?_ ?_ | exact View.int (by first | rfl | omega | (simp; done) | (rw [wrap_i64] <;> (try simp only [Int.natCast_add]) <;> omega) | (simp [*]; done)) | exact .bp rfl (by decide)))); (case hB => (simp only [go_sem, *]) <;> (repeat' (first | refine And.intro ?_ ?_ | exact ⟨_, rfl, BView.boxF rfl⟩))))
  · intro i hi
    by_cases hlt : i < M.length
    · have hlt' : (i : Int) < M.length := by omega
      have hat := rcs_at M i hlt
      have hz : ((M.getD i zeroRc).cells).length = 4 := rfl
      have hs := hst i hlt
      have hsm := hfi i
      have hsx := hin i hlt
      clear hfi hst hin hat0 hz0 k1
      generalize (M.take i).foldl stepB (M.getD 0 zeroRc) = R at *
      generalize M.getD i zeroRc = x at *
      have c1 := better_ok x R hsx hsm
      rw [show stepB R x = if betterB x R = true then x else R from rfl] at hs
      clear hsm hsx
      cases hk : betterB x R
      · rw [hk] at c1 hs
        rw [if_neg (by decide)] at hs
        repeat' (first
 | (apply Awp.sreg; (case hn => (simp only [List.length_cons, List.length_nil, Nat.reduceAdd] <;> rfl)))
 | (apply Awp.sdraw; (case hn => (simp only [List.length_cons, List.length_nil, Nat.reduceAdd] <;> rfl)))
 | (refine st_nil ?_)
 | (apply st_a; (case hc => rfl); (case he => (simp only [go_sem, *] <;> rfl)); (case hu => (simp only [updL_nil, updL_cons] <;> rfl)); (case hp => first | trivial))
 | (apply Awp.reg; (case hn => (simp only [List.length_cons, List.length_nil, Nat.reduceAdd] <;> rfl)))
 | (refine Awp.skip ?_; try simp only [go_sem, *])
 | refine Awp.block ?_
 | (apply Awp.cond; (case hc => (simp only [go_sem, *] <;> rfl)); all_goals (intro hg; (try simp only [Bool.not_true, Bool.not_false, reduceCtorEq] at hg)))
 | refine Awp.seq ?_
 | (apply sl_a; (case hc => rfl); (case he => (simp only [go_sem, *] <;> rfl)); (case hu => (simp only [updL_nil, updL_cons] <;> rfl)); (case hl => (simp only [List.map_cons, List.map_nil] <;> rfl)); (case hp => first | trivial | omega))
 | (apply sl_c; (case hc => (simp only [go_sem, *] <;> rfl)); (case hl => (simp only [go_sem, *] <;> rfl)); (case hn => (simp only [go_sem, *] <;> rfl)); (case hp => first | exact c1 | (have hXz := c1; simp only [go_sem, *] at hXz; exact hXz)); (case hd => first | exact .inl rfl | exact .inr (.v _) | exact .inr .any | exact .inr .nils | (refine .inr ?_; (repeat' (first | exact Dry.v _ | exact Dry.any | exact Dry.nils | exact Dry.slE | refine Dry.agg ?_ | refine Dry.tup ?_ | (refine List.forall_mem_cons.2 (And.intro ?_ ?_)) | (intro cQ hQ; cases hQ; done))); done)); (case hm => first | decide | (simp; done)))
 | (refine sl_nil (And.intro (by first | exact drawOk_of (by decide +kernel) | (simp only [List.map_cons, List.map_nil]; exact drawOk_of (by decide +kernel)) | decide) ?_)))
        all_goals (refine ⟨i + 1, by omega, by omega, ?_⟩; rw [hs]; clear hs c1; (apply Ghost.mk [(0, 0), (1, 1)] []; (case hdead => rfl); (case hinj => rfl); (case hV => (simp only [go_sem, *]) <;> (repeat' (first | refine And.intro ?_ ?_ | exact View.int (by first | rfl | omega | (simp; done) | (rw [wrap_i64] <;> (try simp only [Int.natCast_add]) <;> omega) | (simp [*]; done)) | exact .bp rfl (by decide)))); (case hB => (simp only [go_sem, *]) <;> (repeat' (first | refine And.intro ?_ ?_ | exact ⟨_, rfl, BView.boxF rfl⟩)))))
      · rw [hk] at c1 hs
        rw [if_pos rfl] at hs
        repeat' (first
 | (apply Awp.sreg; (case hn => (simp only [List.length_cons, List.length_nil, Nat.reduceAdd] <;> rfl)))
 | (apply Awp.sdraw; (case hn => (simp only [List.length_cons, List.length_nil, Nat.reduceAdd] <;> rfl)))
 | (refine st_nil ?_)
 | (apply st_a; (case hc => rfl); (case he => (simp only [go_sem, *] <;> rfl)); (case hu => (simp only [updL_nil, updL_cons] <;> rfl)); (case hp => first | trivial | omega))
 | (apply Awp.reg; (case hn => (simp only [List.length_cons, List.length_nil, Nat.reduceAdd] <;> rfl)))
 | (refine Awp.skip ?_; try simp only [go_sem, *])
 | refine Awp.block ?_
 | (apply Awp.cond; (case hc => (simp only [go_sem, *] <;> rfl)); all_goals (intro hg; (try simp only [Bool.not_true, Bool.not_false, reduceCtorEq] at hg)))
 | refine Awp.seq ?_
 | (apply sl_a; (case hc => rfl); (case he => (simp only [go_sem, *] <;> rfl)); (case hu => (simp only [updL_nil, updL_cons] <;> rfl)); (case hl => (simp only [List.map_cons, List.map_nil] <;> rfl)); (case hp => first | trivial | omega))
 | (apply sl_c; (case hc => (simp only [go_sem, *] <;> rfl)); (case hl => (simp only [go_sem, *] <;> rfl)); (case hn => (simp only [go_sem, *] <;> rfl)); (case hp => first | exact c1 | (have hXz := c1; simp only [go_sem, *] at hXz; exact hXz)); (case hd => first | exact .inl rfl | exact .inr (.v _) | exact .inr .any | exact .inr .nils | (refine .inr ?_; (repeat' (first | exact Dry.v _ | exact Dry.any | exact Dry.nils | exact Dry.slE | refine Dry.agg ?_ | refine Dry.tup ?_ | (refine List.forall_mem_cons.2 (And.intro ?_ ?_)) | (intro cQ hQ; cases hQ; done))); done)); (case hm => first | decide | (simp; done)))
 | (refine sl_nil (And.intro (by first | exact drawOk_of (by decide +kernel) | (simp only [List.map_cons, List.map_nil]; exact drawOk_of (by decide +kernel)) | decide) ?_)))
        all_goals (refine ⟨i + 1, by omega, by omega, ?_⟩; rw [hs]; clear hs c1; (apply Ghost.mk [(0, 0), (1, 1)] []; (case hdead => rfl); (case hinj => rfl); (case hV => (simp only [go_sem, *]) <;> (repeat' (first | refine And.intro ?_ ?_ | exact View.int (by first | rfl | omega | (simp; done) | (rw [wrap_i64] <;> (try simp only [Int.natCast_add]) <;> omega) | (simp [*]; done)) | exact .bp rfl (by decide)))); (case hB => (simp only [go_sem, *]) <;> (repeat' (first | refine And.intro ?_ ?_ | exact ⟨_, rfl, BView.boxF rfl⟩)))))
    · have hlt' : ¬ (i : Int) < M.length := by omega
      have e1 : i = M.length := by omega
      rw [e1] at hlt' ⊢
      clear e1 hfi hst hin hat0 hz0 k1
      generalize (M.take M.length).foldl stepB (M.getD 0 zeroRc) = R at *
      repeat' (first
 | (apply Awp.sreg; (case hn => (simp only [List.length_cons, List.length_nil, Nat.reduceAdd] <;> rfl)))
 | (refine st_nil ?_)
 | (apply st_a; (case hc => rfl); (case he => (simp only [go_sem, *] <;> rfl)); (case hu => (simp only [updL_nil, updL_cons] <;> rfl)); (case hp => first | trivial))
 | (refine Awp.ret ?_; try simp only [go_sem, *])
 | (refine Awp.exit ?_; try simp only [go_sem, *])
 | (apply Awp.cond; (case hc => (simp only [go_sem, *] <;> rfl)); all_goals (intro hg; (try simp only [Bool.not_true, Bool.not_false, reduceCtorEq] at hg)))
 | refine Awp.seq ?_)
      all_goals repeat' (first | exact Lower.bool (by first | rfl | (simp only [true_and, Bool.true_and, Bool.false_and, Bool.and_true, Bool.and_false, Bool.true_or, Bool.false_or, reduceIte, Bool.false_eq_true, *]; done) | (simp only [true_and, reduceIte, Bool.false_eq_true, *] <;> rfl) | (simp [true_and]; done) | (simp_all [true_and]; done) | omega) | exact Lower.int (by first | rfl | (simp only [true_and, Bool.true_and, Bool.false_and, Bool.and_true, Bool.and_false, Bool.true_or, Bool.false_or, reduceIte, Bool.false_eq_true, *]; done) | (simp only [true_and, reduceIte, Bool.false_eq_true, *] <;> rfl) | (simp [true_and]; done) | (simp_all [true_and]; done) | omega) | refine Lower.aggF ?_ | refine Lower.tupF ?_ | refine All2.cons ?_ ?_ | exact All2.nil)
end Go.Proofs
end
section
set_option linter.unusedVariables false
set_option linter.unusedSimpArgs false
namespace Go.Proofs
structure Pt where
  x : Int
  y : Int
def zeroPt : Pt := ⟨0, 0⟩
structure Sh where
  out : List Pt
  holes : List (List Pt)
structure Spt where
  part : ByteArray
  x : Int
  y : Int
  turn : Int
  flip : Bool
def farB (p : Pt) : Bool := ((decide (p.x < -1099511627776) || decide (1099511627776 < p.x)) || decide (p.y < -1099511627776)) || decide (1099511627776 < p.y)
def flipP (f : Bool) (p : Pt) : Pt := if f = true then ⟨-p.x, p.y⟩ else p
def rot (p : Pt) : Pt := ⟨-p.y, p.x⟩
def rotN : Nat → Pt → Pt
  | 0, p => p
  | n + 1, p => rot (rotN n p)
def movP (s : Spt) (p : Pt) : Pt := ⟨(rotN s.turn.toNat (flipP s.flip p)).x + s.x, (rotN s.turn.toNat (flipP s.flip p)).y + s.y⟩
def movC (s : Spt) (c : List Pt) : List Pt := if s.flip = true then (c.map (movP s)).reverse else c.map (movP s)
def badMv (s : Spt) : Bool := (decide (s.turn < 0) || decide (3 < s.turn)) || farB ⟨s.x, s.y⟩
def moveE (s : Sh) (t : Spt) : Sh := if badMv t = true then ⟨[], []⟩ else if (s.out :: s.holes).any (fun c => c.any farB) = true then ⟨[], []⟩ else ⟨movC t s.out, s.holes.map (movC t)⟩
theorem far_no {p : Pt} (h : farB p = false) : (-1099511627776 ≤ p.x ∧ p.x ≤ 1099511627776) ∧ (-1099511627776 ≤ p.y ∧ p.y ≤ 1099511627776) := by
  unfold farB at h
  simp only [Bool.or_eq_false_iff, decide_eq_false_iff_not] at h
  omega
theorem rot_bnd {B : Int} (p : Pt) (h : (-B ≤ p.x ∧ p.x ≤ B) ∧ (-B ≤ p.y ∧ p.y ≤ B)) : ∀ n, (-B ≤ (rotN n p).x ∧ (rotN n p).x ≤ B) ∧ (-B ≤ (rotN n p).y ∧ (rotN n p).y ≤ B)
  | 0 => h
  | n + 1 => by
    have := rot_bnd p h n
    unfold rotN rot
    simp only []
    omega
theorem flip_bnd {B : Int} (f : Bool) (p : Pt) (h : (-B ≤ p.x ∧ p.x ≤ B) ∧ (-B ≤ p.y ∧ p.y ≤ B)) : (-B ≤ (flipP f p).x ∧ (flipP f p).x ≤ B) ∧ (-B ≤ (flipP f p).y ∧ (flipP f p).y ≤ B) := by
  unfold flipP
  split
  · simp only []; omega
  · exact h
/-! bounds -/
def loE (l : List Int) (a : Int) : Int := l.foldl min a
def hiE (l : List Int) (a : Int) : Int := l.foldl max a
def bndE (l : List Pt) : Rc := ⟨loE (l.map Pt.x) (l.getD 0 zeroPt).x, loE (l.map Pt.y) (l.getD 0 zeroPt).y, hiE (l.map Pt.x) (l.getD 0 zeroPt).x, hiE (l.map Pt.y) (l.getD 0 zeroPt).y⟩
end Go.Proofs
end
section
set_option linter.unusedVariables false
set_option linter.unusedSimpArgs false
namespace Go.Proofs
open Go Go.Ab
set_option maxHeartbeats 8000000
set_option maxRecDepth 100000
@[go_sem] theorem Tryz.co52 : Tryz.prog.cellsOf 52 = 2 := by kernel_rfl
@[go_sem] theorem Tryz.ag52 : isAggB Tryz.prog 52 = true := by kernel_rfl
@[go_sem] theorem Tryz.co43 : Tryz.prog.cellsOf 43 = 2 := by kernel_rfl
@[go_sem] theorem Tryz.ag43 : isAggB Tryz.prog 43 = true := by kernel_rfl
@[go_sem] theorem Tryz.co49 : Tryz.prog.cellsOf 49 = 18 := by kernel_rfl
@[go_sem] theorem Tryz.ag49 : isAggB Tryz.prog 49 = true := by kernel_rfl
@[go_sem] theorem Tryz.co59 : Tryz.prog.cellsOf 59 = 5 := by kernel_rfl
@[go_sem] theorem Tryz.ag59 : isAggB Tryz.prog 59 = true := by kernel_rfl
@[go_sem] theorem Tryz.co40 : Tryz.prog.cellsOf 40 = 1 := by kernel_rfl
@[go_sem] theorem Tryz.ag40 : isAggB Tryz.prog 40 = false := by kernel_rfl
attribute [local irreducible] Awp aops aopsL Go.Ab.Pure PureOwn
def Pt.cells (p : Pt) : List AV := [.v (.int .i64 p.x), .v (.int .i64 p.y)]
def Pt.av (p : Pt) : AV := .agg p.cells
def pts (l : List Pt) : List (List AV) := l.map Pt.cells
attribute [go_sem] Pt.av Pt.cells
@[go_sem] theorem pts_len (l : List Pt) : (pts l).length = l.length := by simp [pts]
theorem pts_at (l : List Pt) (i : Nat) (h : i < l.length) : (pts l).getD i [] = (l.getD i zeroPt).cells := by
  simp [pts, List.getD_eq_getElem?_getD, h]
theorem pts_snoc (l : List Pt) (x : Pt) : pts l ++ [[.v (.int .i64 x.x), .v (.int .i64 x.y)]] = pts (l ++ [x]) := by simp [pts, Pt.cells]
def pps (l : List (List Pt)) : List (List AV) := l.map fun c => [.sl (pts c)]
@[go_sem] theorem pps_len (l : List (List Pt)) : (pps l).length = l.length := by simp [pps]
theorem pps_at (l : List (List Pt)) (i : Nat) (h : i < l.length) : (pps l).getD i [] = [.sl (pts (l.getD i []))] := by
  simp [pps, List.getD_eq_getElem?_getD, h]
theorem pps_one (l : List (List Pt)) : ∀ y ∈ pps l, y.length = 1 := by
  intro y hy; obtain ⟨s, _, rfl⟩ := List.mem_map.1 hy; rfl
theorem pps_snoc (l : List (List Pt)) (x : List Pt) : pps l ++ [[.sl (pts x)]] = pps (l ++ [x]) := by simp [pps]
def Sh.cells (s : Sh) : List AV := [.sl (pts s.out), .sl (pps s.holes)]
def Sh.av (s : Sh) : AV := .agg s.cells
attribute [go_sem] Sh.av Sh.cells
def zeroSh : Sh := ⟨[], []⟩
def shs (l : List Sh) : List (List AV) := l.map Sh.cells
@[go_sem] theorem shs_len (l : List Sh) : (shs l).length = l.length := by simp [shs]
theorem shs_at (l : List Sh) (i : Nat) (h : i < l.length) : (shs l).getD i [] = (l.getD i zeroSh).cells := by
  simp [shs, List.getD_eq_getElem?_getD, h]
theorem shs_snoc (l : List Sh) (x : Sh) : shs l ++ [[.sl (pts x.out), .sl (pps x.holes)]] = shs (l ++ [x]) := by simp [shs, Sh.cells]
def Spt.cells (s : Spt) : List AV := [.v (.string s.part), .v (.int .i64 s.x), .v (.int .i64 s.y), .v (.int .i64 s.turn), .v (.bool s.flip)]
def Spt.av (s : Spt) : AV := .agg s.cells
attribute [go_sem] Spt.av Spt.cells
def zeroSpt : Spt := ⟨⟨#[]⟩, 0, 0, 0, false⟩
def spts (l : List Spt) : List (List AV) := l.map Spt.cells
@[go_sem] theorem spts_len (l : List Spt) : (spts l).length = l.length := by simp [spts]
theorem spts_at (l : List Spt) (i : Nat) (h : i < l.length) : (spts l).getD i [] = (l.getD i zeroSpt).cells := by
  simp [spts, List.getD_eq_getElem?_getD, h]
structure Pa where
  id : ByteArray
  k1 : Int
  k2 : Int
  s3 : ByteArray
  s4 : ByteArray
  k5 : Int
  sh : Sh
  s8 : ByteArray
  k9 : Int
  ka : Int
  kb : Int
  kc : Int
  kd : Int
  ke : Int
  kf : Int
  kg : Int
  kh : Int
def Pa.cells (p : Pa) : List AV := [.v (.string p.id), .v (.int .i64 p.k1), .v (.int .i64 p.k2), .v (.string p.s3), .v (.string p.s4), .v (.int .i64 p.k5), .sl (pts p.sh.out), .sl (pps p.sh.holes), .v (.string p.s8), .v (.int .i64 p.k9), .v (.int .i64 p.ka), .v (.int .i64 p.kb), .v (.int .i64 p.kc), .v (.int .i64 p.kd), .v (.int .i64 p.ke), .v (.int .i64 p.kf), .v (.int .i64 p.kg), .v (.int .i64 p.kh)]
def Pa.av (p : Pa) : AV := .agg p.cells
attribute [go_sem] Pa.av Pa.cells
def zeroPa : Pa := ⟨⟨#[]⟩, 0, 0, ⟨#[]⟩, ⟨#[]⟩, 0, ⟨[], []⟩, ⟨#[]⟩, 0, 0, 0, 0, 0, 0, 0, 0, 0⟩
def pas (l : List Pa) : List (List AV) := l.map Pa.cells
@[go_sem] theorem pas_len (l : List Pa) : (pas l).length = l.length := by simp [pas]
theorem pas_at (l : List Pa) (i : Nat) (h : i < l.length) : (pas l).getD i [] = (l.getD i zeroPa).cells := by
  simp [pas, List.getD_eq_getElem?_getD, h]
theorem far_ok (p : Pt) : Pure Tryz.prog 52 [p.av] (.v (.bool (farB p))) := by
  unfold farB
  refine fn_pure Tryz.F52 (Nat.le_of_ble_eq_true rfl) ?_; unfold Tryz.ac52
  repeat' (first
 | (apply Awp.sreg; (case hn => (simp only [List.length_cons, List.length_nil, Nat.reduceAdd] <;> rfl)))
 | (refine st_nil ?_)
 | (apply st_a; (case hc => rfl); (case he => (simp only [go_sem, *] <;> rfl)); (case hu => (simp only [updL_nil, updL_cons] <;> rfl)); (case hp => first | trivial))
 | (apply st_m; (case hc => rfl); (case hg => (simp only [go_sem, *] <;> rfl)); (case he => (intro hQz; (try simp only [wantB_t, wantB_f, Bool.and_eq_true, Bool.not_eq_true', Bool.not_true, Bool.not_false, and_true, true_and] at hQz); simp only [go_sem, *] <;> rfl)); (case hp => (intro hQz; (try simp only [wantB_t, wantB_f, Bool.and_eq_true, Bool.not_eq_true', Bool.or_eq_false_iff, decide_eq_true_eq, decide_eq_false_iff_not, beq_iff_eq, beq_eq_false_iff_ne, bne_iff_ne, bne_eq_false_iff_eq, Int.not_lt, Int.not_le, Int.ofNat_lt, Int.ofNat_le] at hQz); first | trivial)))
 | (refine Awp.ret ?_; try simp only [go_sem, *]))
  all_goals repeat' (first | exact Lower.bool (by first | rfl | (simp only [true_and, Bool.true_and, Bool.false_and, Bool.and_true, Bool.and_false, Bool.true_or, Bool.false_or, reduceIte, Bool.false_eq_true, *]; done) | (simp only [true_and, reduceIte, Bool.false_eq_true, *] <;> rfl) | (simp [true_and]; done) | (simp_all [true_and]; done) | omega))
theorem indexPt_ok (l : List Pt) (hl : l.length < 1000000000) : Pure Tryz.prog 80 [.sl (pts l), .fn 52 []] (.v (.int .i64 (idxF farB l))) := by
  refine fn_pure Tryz.F80 (Nat.le_of_ble_eq_true rfl) ?_; unfold Tryz.ac80
  repeat' (first
 | (apply Awp.sreg; (case hn => (simp only [List.length_cons, List.length_nil, Nat.reduceAdd] <;> rfl)))
 | (refine st_nil ?_)
 | (apply st_a; (case hc => rfl); (case he => (simp only [go_sem, *] <;> rfl)); (case hu => (simp only [updL_nil, updL_cons] <;> rfl)); (case hp => first | trivial))
 | refine Awp.block ?_
 | refine Awp.seq ?_)
  refine Awp.loop (fun i : Nat => i ≤ l.length ∧ ∀ j, j < i → farB (l.getD j zeroPt) = false) 40 (fun i => mkS [(0, .sl (pts l)), (1, .fn 52 []), (7, .v (.int .i64 l.length)), (8, .v (.int .i64 i))] []) (fun i => l.length - i) 0 (by simp) ?_ ?_
  · (apply Ghost.mk [] []; (case hdead => rfl); (case hinj => rfl); (case hV => (simp only [go_sem, *]) <;> (repeat' (first | refine And.intro ?_ ?_ | exact View.int (by first | rfl | omega | (simp; done) | (rw [wrap_i64] <;> (try simp only [Int.natCast_add]) <;> omega) | (simp [*]; done)) | (refine View.fnF ?_; (simp [AV.flat]; done))))); (case hB => (simp only [go_sem, *]) <;> (repeat' (first | skip; done))))
  · intro i ⟨hi, hj⟩
    by_cases hlt : i < l.length
    · have hlt' : (i : Int) < l.length := by omega
      have hat := pts_at l i hlt
      have hz : ((l.getD i zeroPt).cells).length = 2 := rfl
      have hpi := far_ok (l.getD i zeroPt)
      repeat' (first
 | (apply Awp.sreg; (case hn => (simp only [List.length_cons, List.length_nil, Nat.reduceAdd] <;> rfl)))
 | (refine st_nil ?_)
 | (apply st_a; (case hc => rfl); (case he => (simp only [go_sem, *] <;> rfl)); (case hu => (simp only [updL_nil, updL_cons] <;> rfl)); (case hp => first | trivial | omega))
 | (apply st_c; (case hc => (simp only [go_sem, *] <;> rfl)); (case hl => (simp only [go_sem, *] <;> rfl)); (case hn => (simp only [go_sem, *] <;> rfl)); (case hp => first | exact hpi | (have hXz := hpi; simp only [go_sem, *] at hXz; exact hXz)))
 | (apply Awp.reg; (case hn => (simp only [List.length_cons, List.length_nil, Nat.reduceAdd] <;> rfl)))
 | (refine Awp.ret ?_; try simp only [go_sem, *])
 | (refine Awp.skip ?_; try simp only [go_sem, *])
 | refine Awp.block ?_
 | (apply Awp.cond; (case hc => (simp only [go_sem, *] <;> rfl)); all_goals (intro hg; (try simp only [Bool.not_true, Bool.not_false, reduceCtorEq] at hg)))
 | refine Awp.seq ?_)
      · exact Lower.int (idxF_in hlt hg hj).symm
      · refine ⟨i + 1, ⟨by omega, ltSucc hj hg⟩, by omega, ?_⟩
        (apply Ghost.mk [] []; (case hdead => rfl); (case hinj => rfl); (case hV => (simp only [go_sem, *]) <;> (repeat' (first | refine And.intro ?_ ?_ | exact View.int (by first | rfl | omega | (simp; done) | (rw [wrap_i64] <;> (try simp only [Int.natCast_add]) <;> omega) | (simp [*]; done)) | (refine View.fnF ?_; (simp [AV.flat]; done))))); (case hB => (simp only [go_sem, *]) <;> (repeat' (first | skip; done))))
    · have hlt' : ¬ (i : Int) < l.length := by omega
      repeat' (first
 | (apply Awp.sreg; (case hn => (simp only [List.length_cons, List.length_nil, Nat.reduceAdd] <;> rfl)))
 | (refine st_nil ?_)
 | (apply st_a; (case hc => rfl); (case he => (simp only [go_sem, *] <;> rfl)); (case hu => (simp only [updL_nil, updL_cons] <;> rfl)); (case hp => first | trivial))
 | (refine Awp.ret ?_; try simp only [go_sem, *])
 | (refine Awp.exit ?_; try simp only [go_sem, *])
 | (apply Awp.cond; (case hc => (simp only [go_sem, *] <;> rfl)); all_goals (intro hg; (try simp only [Bool.not_true, Bool.not_false, reduceCtorEq] at hg); (try have hg' := hg); (try simp only [decide_eq_true_eq, decide_eq_false_iff_not, Bool.and_eq_true, Bool.or_eq_false_iff, bne_iff_ne, bne_eq_false_iff_eq, beq_iff_eq, beq_eq_false_iff_ne, Int.not_lt, Int.not_le, Int.ofNat_lt, Int.ofNat_le, Int.natCast_inj] at hg')))
 | refine Awp.seq ?_)
      exact Lower.int (idxF_out (Nat.le_of_not_lt hlt) hj).symm
theorem containsPt_ok (l : List Pt) (hl : l.length < 1000000000) : Pure Tryz.prog 54 [.sl (pts l), .fn 52 []] (.v (.bool (l.any farB))) := by
  have h := indexPt_ok l hl
  rw [← idxF_any]
  refine fn_pure Tryz.F54 (Nat.le_of_ble_eq_true rfl) ?_; unfold Tryz.ac54
  repeat' (first
 | (apply Awp.sreg; (case hn => (simp only [List.length_cons, List.length_nil, Nat.reduceAdd] <;> rfl)))
 | (refine st_nil ?_)
 | (apply st_a; (case hc => rfl); (case he => (simp only [go_sem, *] <;> rfl)); (case hu => (simp only [updL_nil, updL_cons] <;> rfl)); (case hp => first | trivial))
 | (apply st_c; (case hc => (simp only [go_sem, *] <;> rfl)); (case hl => (simp only [go_sem, *] <;> rfl)); (case hn => (simp only [go_sem, *] <;> rfl)); (case hp => first | exact h | (have hXz := h; simp only [go_sem, *] at hXz; exact hXz)))
 | (refine Awp.ret ?_; try simp only [go_sem, *]))
  all_goals repeat' (first | exact Lower.bool (by first | rfl | (simp only [true_and, Bool.true_and, Bool.false_and, Bool.and_true, Bool.and_false, Bool.true_or, Bool.false_or, reduceIte, Bool.false_eq_true, *]; done) | (simp only [true_and, reduceIte, Bool.false_eq_true, *] <;> rfl) | (simp [true_and]; done) | (simp_all [true_and]; done) | omega))
theorem contours_ok (s : Sh) (hl : s.holes.length < 1000000) : Pure Tryz.prog 53 [s.av] (.sl (pps (s.out :: s.holes))) := by
  have e : pps (s.out :: s.holes) = [[.sl (pts s.out)]] ++ pps s.holes := rfl
  have h1 := pps_one s.holes
  rw [e]
  clear e
  refine fn_pure Tryz.F53 (Nat.le_of_ble_eq_true rfl) ?_; unfold Tryz.ac53
  repeat' (first
 | (apply Awp.sreg; (case hn => (simp only [List.length_cons, List.length_nil, Nat.reduceAdd] <;> rfl)))
 | (refine st_nil ?_)
 | (apply st_a; (case hc => rfl); (case he => (simp only [go_sem, *] <;> rfl)); (case hu => (simp only [updL_nil, updL_cons] <;> rfl)); (case hp => first | trivial | (simp; done) | ((repeat' (refine And.intro ?_ ?_)) <;> first | trivial | assumption | omega | (simp; done) | (simp; omega) | (simp [*]; done))))
 | (refine Awp.ret ?_; try simp only [go_sem, *]))
  all_goals repeat' (first | exact Lower.ownE (by simp only [go_sem, *] <;> rfl) (by first | rfl | (simp only [true_and, Bool.true_and, Bool.false_and, Bool.and_true, Bool.and_false, Bool.true_or, Bool.false_or, reduceIte, Bool.false_eq_true, *]; done) | (simp only [true_and, reduceIte, Bool.false_eq_true, *] <;> rfl) | (simp [true_and]; done) | (simp_all [true_and]; done) | omega))
def smallB (n : Int) : Bool := decide (-32768 ≤ n) && decide (n ≤ 32768)
theorem small_ok (n : Int) : Pure Tryz.prog 51 [.v (.int .i64 n)] (.v (.bool (smallB n))) := by
  unfold smallB
  refine fn_pure Tryz.F51 (Nat.le_of_ble_eq_true rfl) ?_; unfold Tryz.ac51
  repeat' (first
 | (apply Awp.sreg; (case hn => (simp only [List.length_cons, List.length_nil, Nat.reduceAdd] <;> rfl)))
 | (refine st_nil ?_)
 | (apply st_a; (case hc => rfl); (case he => (simp only [go_sem, *] <;> rfl)); (case hu => (simp only [updL_nil, updL_cons] <;> rfl)); (case hp => first | trivial))
 | (apply st_m; (case hc => rfl); (case hg => (simp only [go_sem, *] <;> rfl)); (case he => (intro hQz; (try simp only [wantB_t, wantB_f, Bool.and_eq_true, Bool.not_eq_true', Bool.not_true, Bool.not_false, and_true, true_and] at hQz); simp only [go_sem, *] <;> rfl)); (case hp => (intro hQz; (try simp only [wantB_t, wantB_f, Bool.and_eq_true, Bool.not_eq_true', Bool.or_eq_false_iff, decide_eq_true_eq, decide_eq_false_iff_not, beq_iff_eq, beq_eq_false_iff_ne, bne_iff_ne, bne_eq_false_iff_eq, Int.not_lt, Int.not_le, Int.ofNat_lt, Int.ofNat_le] at hQz); first | trivial)))
 | (refine Awp.ret ?_; try simp only [go_sem, *]))
  all_goals repeat' (first | exact Lower.bool (by first | rfl | (simp only [true_and, Bool.true_and, Bool.false_and, Bool.and_true, Bool.and_false, Bool.true_or, Bool.false_or, reduceIte, Bool.false_eq_true, *]; done) | (simp only [true_and, reduceIte, Bool.false_eq_true, *] <;> rfl) | (simp [true_and]; done) | (simp_all [true_and]; done) | omega))
def placedB (s : Spt) : Bool := ((decide (0 ≤ s.turn) && decide (s.turn ≤ 3)) && smallB s.x) && smallB s.y
theorem placed_ok (s : Spt) : Pure Tryz.prog 31 [s.av] (.v (.bool (placedB s))) := by
  have a1 := small_ok s.x
  have a2 := small_ok s.y
  unfold placedB
  generalize smallB s.x = b1 at *
  generalize smallB s.y = b2 at *
  refine fn_pure Tryz.F31 (Nat.le_of_ble_eq_true rfl) ?_; unfold Tryz.ac31
  repeat' (first
 | (apply Awp.sreg; (case hn => (simp only [List.length_cons, List.length_nil, Nat.reduceAdd] <;> rfl)))
 | (refine st_nil ?_)
 | (apply st_a; (case hc => rfl); (case he => (simp only [go_sem, *] <;> rfl)); (case hu => (simp only [updL_nil, updL_cons] <;> rfl)); (case hp => first | trivial))
 | (apply st_m; (case hc => rfl); (case hg => (simp only [go_sem, *] <;> rfl)); (case he => (intro hQz; (try simp only [wantB_t, wantB_f, Bool.and_eq_true, Bool.not_eq_true', Bool.not_true, Bool.not_false, and_true, true_and] at hQz); simp only [go_sem, *] <;> rfl)); (case hp => (intro hQz; (try simp only [wantB_t, wantB_f, Bool.and_eq_true, Bool.not_eq_true', Bool.or_eq_false_iff, decide_eq_true_eq, decide_eq_false_iff_not, beq_iff_eq, beq_eq_false_iff_ne, bne_iff_ne, bne_eq_false_iff_eq, Int.not_lt, Int.not_le, Int.ofNat_lt, Int.ofNat_le] at hQz); first | trivial)))
 | (apply st_mc; (case hop => rfl); (case hg => (simp only [go_sem, *] <;> rfl)); (case hc => (intro hQz; (try simp only [wantB_t, wantB_f, Bool.and_eq_true, Bool.not_eq_true', Bool.not_true, Bool.not_false, and_true, true_and] at hQz); simp only [go_sem, *] <;> rfl)); (case hl => (intro hQz; (try simp only [wantB_t, wantB_f, Bool.and_eq_true, Bool.not_eq_true', Bool.not_true, Bool.not_false, and_true, true_and] at hQz); simp only [go_sem, *] <;> rfl)); (case hn => (intro hQz; (try simp only [wantB_t, wantB_f, Bool.and_eq_true, Bool.not_eq_true', Bool.not_true, Bool.not_false, and_true, true_and] at hQz); simp only [go_sem, *] <;> rfl)); (case hp => intro hQz; first | exact a1 | (have hXz := a1; simp only [go_sem, *] at hXz; exact hXz)))
 | (apply st_mc; (case hop => rfl); (case hg => (simp only [go_sem, *] <;> rfl)); (case hc => (intro hQz; (try simp only [wantB_t, wantB_f, Bool.and_eq_true, Bool.not_eq_true', Bool.not_true, Bool.not_false, and_true, true_and] at hQz); simp only [go_sem, *] <;> rfl)); (case hl => (intro hQz; (try simp only [wantB_t, wantB_f, Bool.and_eq_true, Bool.not_eq_true', Bool.not_true, Bool.not_false, and_true, true_and] at hQz); simp only [go_sem, *] <;> rfl)); (case hn => (intro hQz; (try simp only [wantB_t, wantB_f, Bool.and_eq_true, Bool.not_eq_true', Bool.not_true, Bool.not_false, and_true, true_and] at hQz); simp only [go_sem, *] <;> rfl)); (case hp => intro hQz; first | exact a2 | (have hXz := a2; simp only [go_sem, *] at hXz; exact hXz)))
 | (refine Awp.ret ?_; try simp only [go_sem, *]))
  all_goals repeat' (first | exact Lower.bool (by first | rfl | (simp only [true_and, Bool.true_and, Bool.false_and, Bool.and_true, Bool.and_false, Bool.true_or, Bool.false_or, reduceIte, Bool.false_eq_true, *]; done) | (simp only [true_and, reduceIte, Bool.false_eq_true, *] <;> rfl) | (simp [true_and]; done) | (simp_all [true_and]; done) | omega))
def isPa (s : ByteArray) (p : Pa) : Bool := p.id.toList == s.toList
theorem isPa_ok (s : ByteArray) (p : Pa) : Pure Tryz.prog 50 [p.av, .rp [.v (.string s)]] (.v (.bool (isPa s p))) := by
  unfold isPa
  refine fn_pure Tryz.F50 (Nat.le_of_ble_eq_true rfl) ?_; unfold Tryz.ac50
  repeat' (first
 | (apply Awp.sreg; (case hn => (simp only [List.length_cons, List.length_nil, Nat.reduceAdd] <;> rfl)))
 | (refine st_nil ?_)
 | (apply st_a; (case hc => rfl); (case he => (simp only [go_sem, *] <;> rfl)); (case hu => (simp only [updL_nil, updL_cons] <;> rfl)); (case hp => first | trivial))
 | (refine Awp.ret ?_; try simp only [go_sem, *]))
  all_goals repeat' (first | exact Lower.bool (by first | rfl | (simp only [true_and, Bool.true_and, Bool.false_and, Bool.and_true, Bool.and_false, Bool.true_or, Bool.false_or, reduceIte, Bool.false_eq_true, *]; done) | (simp only [true_and, reduceIte, Bool.false_eq_true, *] <;> rfl) | (simp [true_and]; done) | (simp_all [true_and]; done) | omega))
theorem indexPa_ok (l : List Pa) (s : ByteArray) (hl : l.length < 1000000) : Pure Tryz.prog 49 [.sl (pas l), .fn 50 [.rp [.v (.string s)]]] (.v (.int .i64 (idxF (isPa s) l))) := by
  refine fn_pure Tryz.F49 (Nat.le_of_ble_eq_true rfl) ?_; unfold Tryz.ac49
  repeat' (first
 | (apply Awp.sreg; (case hn => (simp only [List.length_cons, List.length_nil, Nat.reduceAdd] <;> rfl)))
 | (refine st_nil ?_)
 | (apply st_a; (case hc => rfl); (case he => (simp only [go_sem, *] <;> rfl)); (case hu => (simp only [updL_nil, updL_cons] <;> rfl)); (case hp => first | trivial))
 | refine Awp.block ?_
 | refine Awp.seq ?_)
  refine Awp.loop (fun i : Nat => i ≤ l.length ∧ ∀ j, j < i → isPa s (l.getD j zeroPa) = false) 40 (fun i => mkS [(0, .sl (pas l)), (1, .fn 50 [.rp [.v (.string s)]]), (7, .v (.int .i64 l.length)), (8, .v (.int .i64 i))] []) (fun i => l.length - i) 0 (by simp) ?_ ?_
  · (apply Ghost.mk [] []; (case hdead => rfl); (case hinj => rfl); (case hV => (simp only [go_sem, *]) <;> (repeat' (first | refine And.intro ?_ ?_ | exact View.int (by first | rfl | omega | (simp; done) | (rw [wrap_i64] <;> (try simp only [Int.natCast_add]) <;> omega) | (simp [*]; done)) | (refine View.fnF ?_; (simp [AV.flat]; done))))); (case hB => (simp only [go_sem, *]) <;> (repeat' (first | skip; done))))
  · intro i ⟨hi, hj⟩
    by_cases hlt : i < l.length
    · have hlt' : (i : Int) < l.length := by omega
      have hat := pas_at l i hlt
      have hz : ((l.getD i zeroPa).cells).length = 18 := rfl
      have hpi := isPa_ok s (l.getD i zeroPa)
      repeat' (first
 | (apply Awp.sreg; (case hn => (simp only [List.length_cons, List.length_nil, Nat.reduceAdd] <;> rfl)))
 | (refine st_nil ?_)
 | (apply st_a; (case hc => rfl); (case he => (simp only [go_sem, *] <;> rfl)); (case hu => (simp only [updL_nil, updL_cons] <;> rfl)); (case hp => first | trivial | omega))
 | (apply st_c; (case hc => (simp only [go_sem, *] <;> rfl)); (case hl => (simp only [go_sem, *] <;> rfl)); (case hn => (simp only [go_sem, *] <;> rfl)); (case hp => first | exact hpi | (have hXz := hpi; simp only [go_sem, *] at hXz; exact hXz)))
 | (apply Awp.reg; (case hn => (simp only [List.length_cons, List.length_nil, Nat.reduceAdd] <;> rfl)))
 | (refine Awp.ret ?_; try simp only [go_sem, *])
 | (refine Awp.skip ?_; try simp only [go_sem, *])
 | refine Awp.block ?_
 | (apply Awp.cond; (case hc => (simp only [go_sem, *] <;> rfl)); all_goals (intro hg; (try simp only [Bool.not_true, Bool.not_false, reduceCtorEq] at hg)))
 | refine Awp.seq ?_)
      · exact Lower.int (idxF_in hlt hg hj).symm
      · refine ⟨i + 1, ⟨by omega, ltSucc hj hg⟩, by omega, ?_⟩
        (apply Ghost.mk [] []; (case hdead => rfl); (case hinj => rfl); (case hV => (simp only [go_sem, *]) <;> (repeat' (first | refine And.intro ?_ ?_ | exact View.int (by first | rfl | omega | (simp; done) | (rw [wrap_i64] <;> (try simp only [Int.natCast_add]) <;> omega) | (simp [*]; done)) | (refine View.fnF ?_; (simp [AV.flat]; done))))); (case hB => (simp only [go_sem, *]) <;> (repeat' (first | skip; done))))
    · have hlt' : ¬ (i : Int) < l.length := by omega
      repeat' (first
 | (apply Awp.sreg; (case hn => (simp only [List.length_cons, List.length_nil, Nat.reduceAdd] <;> rfl)))
 | (refine st_nil ?_)
 | (apply st_a; (case hc => rfl); (case he => (simp only [go_sem, *] <;> rfl)); (case hu => (simp only [updL_nil, updL_cons] <;> rfl)); (case hp => first | trivial))
 | (refine Awp.ret ?_; try simp only [go_sem, *])
 | (refine Awp.exit ?_; try simp only [go_sem, *])
 | (apply Awp.cond; (case hc => (simp only [go_sem, *] <;> rfl)); all_goals (intro hg; (try simp only [Bool.not_true, Bool.not_false, reduceCtorEq] at hg); (try have hg' := hg); (try simp only [decide_eq_true_eq, decide_eq_false_iff_not, Bool.and_eq_true, Bool.or_eq_false_iff, bne_iff_ne, bne_eq_false_iff_eq, beq_iff_eq, beq_eq_false_iff_ne, Int.not_lt, Int.not_le, Int.ofNat_lt, Int.ofNat_le, Int.natCast_inj] at hg')))
 | refine Awp.seq ?_)
      exact Lower.int (idxF_out (Nat.le_of_not_lt hlt) hj).symm
def partE (l : List Pa) (s : ByteArray) : Pa × Bool := if (l.any (isPa s)) = true then (l.getD (l.findIdx (isPa s)) zeroPa, true) else (zeroPa, false)
theorem part_ok (l : List Pa) (s : ByteArray) (hl : l.length < 1000000) : Pure Tryz.prog 30 [.sl (pas l), .v (.string s)] (.tup [(partE l s).1.av, .v (.bool (partE l s).2)]) := by
  have h := indexPa_ok l s hl
  have hany := idxF_any (isPa s) l
  unfold partE
  cases hA : l.any (isPa s)
  · rw [hA] at hany
    rw [if_neg (by decide)]
    have hlt := of_decide_eq_false hany
    generalize idxF (isPa s) l = k at *
    have hk : decide (k < 0) = true := decide_eq_true (by omega)
    clear hA hany
    unfold zeroPa
    refine fn_pure Tryz.F30 (Nat.le_of_ble_eq_true rfl) ?_; unfold Tryz.ac30
    repeat' (first
 | (apply Awp.sreg; (case hn => (simp only [List.length_cons, List.length_nil, Nat.reduceAdd] <;> rfl)))
 | (refine st_nil ?_)
 | (apply st_a; (case hc => rfl); (case he => (simp only [go_sem, *] <;> rfl)); (case hu => (simp only [updL_nil, updL_cons] <;> rfl)); (case hp => first | trivial))
 | (apply st_cd; (case hc => (simp only [go_sem, *] <;> rfl)); (case hl => (simp only [go_sem, *] <;> rfl)); (case hn => (simp only [go_sem, *] <;> rfl)); (case hp => first | exact h | (have hXz := h; simp only [go_sem, *] at hXz; exact hXz)); (case hd => first | exact .v _ | exact .any | exact .nils | (repeat' (first | exact Dry.v _ | exact Dry.any | exact Dry.nils | exact Dry.slE | refine Dry.agg ?_ | refine Dry.tup ?_ | (refine List.forall_mem_cons.2 (And.intro ?_ ?_)) | (intro cQ hQ; cases hQ; done)))); (case hm => first | decide | (simp; done)))
 | (refine Awp.ret ?_; try simp only [go_sem, *])
 | (apply Awp.cond; (case hc => (simp only [go_sem, *] <;> rfl)); all_goals (intro hg; (try simp only [Bool.not_true, Bool.not_false, reduceCtorEq] at hg)))
 | refine Awp.seq ?_)
    all_goals repeat' (first | exact Lower.bool (by first | rfl | (simp only [true_and, Bool.true_and, Bool.false_and, Bool.and_true, Bool.and_false, Bool.true_or, Bool.false_or, reduceIte, Bool.false_eq_true, *]; done) | (simp only [true_and, reduceIte, Bool.false_eq_true, *] <;> rfl) | (simp [true_and]; done) | (simp_all [true_and]; done) | omega) | exact Lower.int (by first | rfl | (simp only [true_and, Bool.true_and, Bool.false_and, Bool.and_true, Bool.and_false, Bool.true_or, Bool.false_or, reduceIte, Bool.false_eq_true, *]; done) | (simp only [true_and, reduceIte, Bool.false_eq_true, *] <;> rfl) | (simp [true_and]; done) | (simp_all [true_and]; done) | omega) | exact Lower.str (by first | rfl | (simp only [true_and, Bool.true_and, Bool.false_and, Bool.and_true, Bool.and_false, Bool.true_or, Bool.false_or, reduceIte, Bool.false_eq_true, *]; done) | (simp only [true_and, reduceIte, Bool.false_eq_true, *] <;> rfl) | (simp [true_and]; done) | (simp_all [true_and]; done) | omega) | exact Lower.nilE (by first | rfl | (simp only [true_and, Bool.true_and, Bool.false_and, Bool.and_true, Bool.and_false, Bool.true_or, Bool.false_or, reduceIte, Bool.false_eq_true, *]; done) | (simp only [true_and, reduceIte, Bool.false_eq_true, *] <;> rfl) | (simp [true_and]; done) | (simp_all [true_and]; done) | omega) | refine Lower.aggF ?_ | refine Lower.tupF ?_ | refine All2.cons ?_ ?_ | exact All2.nil)
  · rw [hA] at hany
    rw [if_pos rfl]
    have hge := of_decide_eq_true hany
    have hin : l.findIdx (isPa s) < l.length := List.findIdx_lt_length_of_exists (by
      obtain ⟨x, hx, hp⟩ := List.any_eq_true.1 hA
      exact ⟨x, hx, hp⟩)
    have hie : idxF (isPa s) l = (l.findIdx (isPa s) : Nat) := by unfold idxF; rw [if_pos hin]
    rw [hie] at h hge
    clear hany hA hie
    generalize l.findIdx (isPa s) = k at *
    have hk : decide ((k : Int) < 0) = false := decide_eq_false (by omega)
    have hat := pas_at l k hin
    have hz : ((l.getD k zeroPa).cells).length = 18 := rfl
    have hlt' : (k : Int) < l.length := by omega
    generalize l.getD k zeroPa = p at *
    refine fn_pure Tryz.F30 (Nat.le_of_ble_eq_true rfl) ?_; unfold Tryz.ac30
    repeat' (first
 | (apply Awp.sreg; (case hn => (simp only [List.length_cons, List.length_nil, Nat.reduceAdd] <;> rfl)))
 | (refine st_nil ?_)
 | (apply st_a; (case hc => rfl); (case he => (simp only [go_sem, *] <;> rfl)); (case hu => (simp only [updL_nil, updL_cons] <;> rfl)); (case hp => first | trivial))
 | (apply st_cd; (case hc => (simp only [go_sem, *] <;> rfl)); (case hl => (simp only [go_sem, *] <;> rfl)); (case hn => (simp only [go_sem, *] <;> rfl)); (case hp => first | exact h | (have hXz := h; simp only [go_sem, *] at hXz; exact hXz)); (case hd => first | exact .v _ | exact .any | exact .nils | (repeat' (first | exact Dry.v _ | exact Dry.any | exact Dry.nils | exact Dry.slE | refine Dry.agg ?_ | refine Dry.tup ?_ | (refine List.forall_mem_cons.2 (And.intro ?_ ?_)) | (intro cQ hQ; cases hQ; done)))); (case hm => first | decide | (simp; done)))
 | (refine Awp.ret ?_; try simp only [go_sem, *])
 | (refine Awp.skip ?_; try simp only [go_sem, *])
 | (apply Awp.cond; (case hc => (simp only [go_sem, *] <;> rfl)); all_goals (intro hg; (try simp only [Bool.not_true, Bool.not_false, reduceCtorEq] at hg)))
 | refine Awp.seq ?_)
    all_goals repeat' (first | exact Lower.bool (by first | rfl | (simp only [true_and, Bool.true_and, Bool.false_and, Bool.and_true, Bool.and_false, Bool.true_or, Bool.false_or, reduceIte, Bool.false_eq_true, *]; done) | (simp only [true_and, reduceIte, Bool.false_eq_true, *] <;> rfl) | (simp [true_and]; done) | (simp_all [true_and]; done) | omega) | exact Lower.int (by first | rfl | (simp only [true_and, Bool.true_and, Bool.false_and, Bool.and_true, Bool.and_false, Bool.true_or, Bool.false_or, reduceIte, Bool.false_eq_true, *]; done) | (simp only [true_and, reduceIte, Bool.false_eq_true, *] <;> rfl) | (simp [true_and]; done) | (simp_all [true_and]; done) | omega) | exact Lower.str (by first | rfl | (simp only [true_and, Bool.true_and, Bool.false_and, Bool.and_true, Bool.and_false, Bool.true_or, Bool.false_or, reduceIte, Bool.false_eq_true, *]; done) | (simp only [true_and, reduceIte, Bool.false_eq_true, *] <;> rfl) | (simp [true_and]; done) | (simp_all [true_and]; done) | omega) | exact Lower.slE' (by first | rfl | (simp only [true_and, Bool.true_and, Bool.false_and, Bool.and_true, Bool.and_false, Bool.true_or, Bool.false_or, reduceIte, Bool.false_eq_true, *]; done) | (simp only [true_and, reduceIte, Bool.false_eq_true, *] <;> rfl) | (simp [true_and]; done) | (simp_all [true_and]; done) | omega) | refine Lower.aggF ?_ | refine Lower.tupF ?_ | refine All2.cons ?_ ?_ | exact All2.nil)
end Go.Proofs
end
section
set_option linter.unusedVariables false
set_option linter.unusedSimpArgs false
namespace Go.Proofs
open Go Go.Ab
set_option maxHeartbeats 8000000
set_option maxRecDepth 100000
attribute [local irreducible] Awp aops aopsL Go.Ab.Pure PureOwn
def RevC : Prop := ∀ (l : List Pt) nm, l.length < 1000000 → nm ≠ 0 → CallC Tryz.prog 56 [.own 0] [(0, .row (pts l) 2 52)] nm (.tup []) [(0, some (.row (pts l.reverse) 2 52))]
theorem moved_ok (c : List Pt) (s : Spt) (hrev : s.flip = true → RevC) (hc : ∀ p ∈ c, farB p = false) (ht : 0 ≤ s.turn ∧ s.turn ≤ 3) (ha : farB ⟨s.x, s.y⟩ = false) (hl : c.length < 1000000) : Pure Tryz.prog 55 [.sl (pts c), .rp s.cells] (.sl (pts (movC s c))) := by
  have ha := far_no ha
  simp only [] at ha
  have hml : (c.map (movP s)).length = c.length := by simp
  refine fn_pure Tryz.F55 (Nat.le_of_ble_eq_true rfl) ?_; unfold Tryz.ac55
  repeat' (first
 | (apply Awp.sreg; (case hn => (simp only [List.length_cons, List.length_nil, Nat.reduceAdd] <;> rfl)))
 | (refine st_nil ?_)
 | (apply st_a; (case hc => rfl); (case he => (simp only [go_sem, *] <;> rfl)); (case hu => (simp only [updL_nil, updL_cons] <;> rfl)); (case hp => first | trivial))
 | refine Awp.block ?_
 | refine Awp.seq ?_)
  refine Awp.loop (fun i : Nat => i ≤ c.length) 80 (fun i => mkS [(1, .rp s.cells), (4, .own 0), (7, .sl (pts c)), (8, .v (.int .i64 c.length)), (9, .v (.int .i64 i))] [(0, .row (pts ((c.take i).map (movP s))) 2 52)]) (fun i => c.length - i) 0 (by omega) ?_ ?_
  · refine Ghost.trans (Ghost.name 4 2 52 rfl (by decide)) ?_
    have e1 : pts ((c.take 0).map (movP s)) = [] := rfl
    rw [e1]
    clear hrev hc
    (apply Ghost.mk [(0, 5)] []; (case hdead => rfl); (case hinj => rfl); (case hV => (simp only [go_sem, *]) <;> (repeat' (first | refine And.intro ?_ ?_ | exact View.int (by first | rfl | omega | (simp; done) | (rw [wrap_i64] <;> (try simp only [Int.natCast_add]) <;> omega) | (simp [*]; done)) | exact .own rfl (by decide)))); (case hB => (simp only [go_sem, *]) <;> (repeat' (first | exact ⟨_, rfl, .rowE (by first | rfl | omega | (simp; done) | (rw [wrap_i64] <;> (try simp only [Int.natCast_add]) <;> omega) | (simp [*]; done))⟩))))
  · intro i hi
    by_cases hlt : i < c.length
    · have hlt' : (i : Int) < c.length := by omega
      have hat := pts_at c i hlt
      have hz : ((c.getD i zeroPt).cells).length = 2 := rfl
      have hfp := far_no (hc _ (getD_in c zeroPt i hlt))
      have hst : (c.take (i + 1)).map (movP s) = (c.take i).map (movP s) ++ [movP s (c.getD i zeroPt)] := by rw [take_snoc c zeroPt i hlt]; simp
      have hln : ((c.take i).map (movP s)).length = i := by simp; omega
      clear hrev hc hml
      generalize c.getD i zeroPt = p at *
      generalize (c.take i).map (movP s) = L at *
      obtain ⟨q, hq⟩ : ∃ q, flipP s.flip p = q := ⟨_, rfl⟩
      have hm : movP s p = ⟨(rotN s.turn.toNat q).x + s.x, (rotN s.turn.toNat q).y + s.y⟩ := by rw [← hq]; rfl
      have hbn := flip_bnd s.flip p hfp
      rw [hq] at hbn
      have hrn := rot_bnd q hbn
      have w0 : IntKind.i64.wrap (0 - p.x) = -p.x := by rw [wrap_i64 (by omega) (by omega)]; omega
      cases hfl : s.flip
      · rw [hfl] at hq
        have hq : p = q := hq

        repeat' (first
 | (apply Awp.sreg; (case hn => (simp only [List.length_cons, List.length_nil, Nat.reduceAdd] <;> rfl)))
 | (refine st_nil ?_)
 | (apply st_a; (case hc => rfl); (case he => (simp only [go_sem, *] <;> rfl)); (case hu => (simp only [updL_nil, updL_cons] <;> rfl)); (case hp => first | trivial | omega))
 | (refine Awp.skip ?_; try simp only [go_sem, *])
 | refine Awp.block ?_
 | (apply Awp.cond; (case hc => (simp only [go_sem, *] <;> rfl)); all_goals (intro hg; (try simp only [Bool.not_true, Bool.not_false, reduceCtorEq] at hg)))
 | refine Awp.seq ?_)
        refine Awp.loop (fun k : Nat => k ≤ s.turn.toNat) 200 (fun k => mkS [(1, .rp s.cells), (4, .own 0), (6, .bp 1 0), (7, .sl (pts c)), (8, .v (.int .i64 c.length)), (9, .v (.int .i64 i)), (20, .v (.int .i64 s.turn)), (21, .v (.int .i64 k))] [(0, .row (pts L) 2 52), (1, .box (rotN k q).cells)]) (fun k => s.turn.toNat - k) 0 (by omega) ?_ ?_
        · have e1 : rotN 0 q = q := rfl
          rw [e1, ← hq]
          clear hst hm hq hbn hrn
          (apply Ghost.mk [(0, 0), (1, 83)] []; (case hdead => rfl); (case hinj => rfl); (case hV => (simp only [go_sem, *]) <;> (repeat' (first | refine And.intro ?_ ?_ | exact View.int (by first | rfl | omega | (simp; done) | (rw [wrap_i64] <;> (try simp only [Int.natCast_add]) <;> omega) | (simp [*]; done)) | exact .bp rfl (by decide) | exact .own rfl (by decide)))); (case hB => (simp only [go_sem, *]) <;> (repeat' (first | refine And.intro ?_ ?_ | exact ⟨_, rfl, BView.boxF rfl⟩ | exact ⟨_, rfl, .rowE (by first | rfl | omega | (simp; done) | (rw [wrap_i64] <;> (try simp only [Int.natCast_add]) <;> omega) | (simp [*]; done))⟩))))
        · intro k hk
          by_cases hlk : k < s.turn.toNat
          · have hlk' : (k : Int) < s.turn := by omega
            have hb := hrn k
            have hs2 : rotN (k + 1) q = ⟨-(rotN k q).y, (rotN k q).x⟩ := rfl
            have w1 : IntKind.i64.wrap (0 - (rotN k q).y) = -(rotN k q).y := by rw [wrap_i64 (by omega) (by omega)]; omega
            clear hst hm hq hbn hrn
            generalize rotN k q = r at *
            repeat' (first
 | (apply Awp.sreg; (case hn => (simp only [List.length_cons, List.length_nil, Nat.reduceAdd] <;> rfl)))
 | (refine st_nil ?_)
 | (apply st_a; (case hc => rfl); (case he => (simp only [go_sem, *] <;> rfl)); (case hu => (simp only [updL_nil, updL_cons] <;> rfl)); (case hp => first | trivial))
 | (apply Awp.reg; (case hn => (simp only [List.length_cons, List.length_nil, Nat.reduceAdd] <;> rfl)))
 | (refine Awp.skip ?_; try simp only [go_sem, *])
 | refine Awp.block ?_
 | (apply Awp.cond; (case hc => (simp only [go_sem, *] <;> rfl)); all_goals (intro hg; (try simp only [Bool.not_true, Bool.not_false, reduceCtorEq] at hg)))
 | refine Awp.seq ?_)
            all_goals (refine ⟨k + 1, by omega, by omega, ?_⟩; rw [hs2]; clear hs2; (apply Ghost.mk [(0, 0), (1, 1)] []; (case hdead => rfl); (case hinj => rfl); (case hV => (simp only [go_sem, *]) <;> (repeat' (first | refine And.intro ?_ ?_ | exact View.int (by first | rfl | omega | (simp; done) | (rw [wrap_i64] <;> (try simp only [Int.natCast_add]) <;> omega) | (simp [*]; done)) | exact .bp rfl (by decide) | exact .own rfl (by decide)))); (case hB => (simp only [go_sem, *]) <;> (repeat' (first | refine And.intro ?_ ?_ | exact ⟨_, rfl, BView.boxF rfl⟩ | exact ⟨_, rfl, .rowE (by first | rfl | omega | (simp; done) | (rw [wrap_i64] <;> (try simp only [Int.natCast_add]) <;> omega) | (simp [*]; done))⟩)))))
          · have hlk' : ¬ (k : Int) < s.turn := by omega
            have e1 : k = s.turn.toNat := by omega
            rw [e1]
            rw [e1] at hlk'
            have hb := hrn s.turn.toNat
            have w1 : IntKind.i64.wrap ((rotN s.turn.toNat q).x + s.x) = (rotN s.turn.toNat q).x + s.x := wrap_i64 (by omega) (by omega)
            have w2 : IntKind.i64.wrap ((rotN s.turn.toNat q).y + s.y) = (rotN s.turn.toNat q).y + s.y := wrap_i64 (by omega) (by omega)
            have e3 := pts_snoc L ⟨(rotN s.turn.toNat q).x + s.x, (rotN s.turn.toNat q).y + s.y⟩
            rw [hm] at hst
            clear hm hq hbn hrn e1 hk hlk hb
            generalize rotN s.turn.toNat q = r at *
            repeat' (first
 | (apply Awp.sreg; (case hn => (simp only [List.length_cons, List.length_nil, Nat.reduceAdd] <;> rfl)))
 | (refine st_nil ?_)
 | (apply st_a; (case hc => rfl); (case he => (simp only [go_sem, *] <;> rfl)); (case hu => (simp only [updL_nil, updL_cons] <;> rfl)); (case hp => first | trivial | (simp; done) | (simp; omega)))
 | (apply Awp.reg; (case hn => (simp only [List.length_cons, List.length_nil, Nat.reduceAdd] <;> rfl)))
 | (refine Awp.exit ?_; try simp only [go_sem, *])
 | (apply Awp.cond; (case hc => (simp only [go_sem, *] <;> rfl)); all_goals (intro hg; (try simp only [Bool.not_true, Bool.not_false, reduceCtorEq] at hg)))
 | refine Awp.seq ?_)
            all_goals (refine ⟨i + 1, by omega, by omega, ?_⟩; rw [hst, ← e3]; clear hst e3; (apply Ghost.mk [(0, 216)] []; (case hdead => rfl); (case hinj => rfl); (case hV => (simp only [go_sem, *]) <;> (repeat' (first | refine And.intro ?_ ?_ | exact View.int (by first | rfl | omega | (simp; done) | (rw [wrap_i64] <;> (try simp only [Int.natCast_add]) <;> omega) | (simp [*]; done)) | exact .own rfl (by decide)))); (case hB => (simp only [go_sem, *]) <;> (repeat' (first | exact ⟨_, rfl, .rowE (by first | rfl | omega | (simp; done) | (rw [wrap_i64] <;> (try simp only [Int.natCast_add]) <;> omega) | (simp [*]; done))⟩)))))

      · rw [hfl] at hq
        have hq : (⟨-p.x, p.y⟩ : Pt) = q := hq

        repeat' (first
 | (apply Awp.sreg; (case hn => (simp only [List.length_cons, List.length_nil, Nat.reduceAdd] <;> rfl)))
 | (refine st_nil ?_)
 | (apply st_a; (case hc => rfl); (case he => (simp only [go_sem, *] <;> rfl)); (case hu => (simp only [updL_nil, updL_cons] <;> rfl)); (case hp => first | trivial | omega))
 | (apply Awp.reg; (case hn => (simp only [List.length_cons, List.length_nil, Nat.reduceAdd] <;> rfl)))
 | (refine Awp.skip ?_; try simp only [go_sem, *])
 | refine Awp.block ?_
 | (apply Awp.cond; (case hc => (simp only [go_sem, *] <;> rfl)); all_goals (intro hg; (try simp only [Bool.not_true, Bool.not_false, reduceCtorEq] at hg)))
 | refine Awp.seq ?_)
        refine Awp.loop (fun k : Nat => k ≤ s.turn.toNat) 200 (fun k => mkS [(1, .rp s.cells), (4, .own 0), (6, .bp 1 0), (7, .sl (pts c)), (8, .v (.int .i64 c.length)), (9, .v (.int .i64 i)), (20, .v (.int .i64 s.turn)), (21, .v (.int .i64 k))] [(0, .row (pts L) 2 52), (1, .box (rotN k q).cells)]) (fun k => s.turn.toNat - k) 0 (by omega) ?_ ?_
        · have e1 : rotN 0 q = q := rfl
          rw [e1, ← hq]
          clear hst hm hq hbn hrn
          (apply Ghost.mk [(0, 0), (1, 83)] []; (case hdead => rfl); (case hinj => rfl); (case hV => (simp only [go_sem, *]) <;> (repeat' (first | refine And.intro ?_ ?_ | exact View.int (by first | rfl | omega | (simp; done) | (rw [wrap_i64] <;> (try simp only [Int.natCast_add]) <;> omega) | (simp [*]; done)) | exact .bp rfl (by decide) | exact .own rfl (by decide)))); (case hB => (simp only [go_sem, *]) <;> (repeat' (first | refine And.intro ?_ ?_ | exact ⟨_, rfl, BView.boxF rfl⟩ | exact ⟨_, rfl, .rowE (by first | rfl | omega | (simp; done) | (rw [wrap_i64] <;> (try simp only [Int.natCast_add]) <;> omega) | (simp [*]; done))⟩))))
        · intro k hk
          by_cases hlk : k < s.turn.toNat
          · have hlk' : (k : Int) < s.turn := by omega
            have hb := hrn k
            have hs2 : rotN (k + 1) q = ⟨-(rotN k q).y, (rotN k q).x⟩ := rfl
            have w1 : IntKind.i64.wrap (0 - (rotN k q).y) = -(rotN k q).y := by rw [wrap_i64 (by omega) (by omega)]; omega
            clear hst hm hq hbn hrn
            generalize rotN k q = r at *
            repeat' (first
 | (apply Awp.sreg; (case hn => (simp only [List.length_cons, List.length_nil, Nat.reduceAdd] <;> rfl)))
 | (refine st_nil ?_)
 | (apply st_a; (case hc => rfl); (case he => (simp only [go_sem, *] <;> rfl)); (case hu => (simp only [updL_nil, updL_cons] <;> rfl)); (case hp => first | trivial))
 | (apply Awp.reg; (case hn => (simp only [List.length_cons, List.length_nil, Nat.reduceAdd] <;> rfl)))
 | (refine Awp.skip ?_; try simp only [go_sem, *])
 | refine Awp.block ?_
 | (apply Awp.cond; (case hc => (simp only [go_sem, *] <;> rfl)); all_goals (intro hg; (try simp only [Bool.not_true, Bool.not_false, reduceCtorEq] at hg)))
 | refine Awp.seq ?_)
            all_goals (refine ⟨k + 1, by omega, by omega, ?_⟩; rw [hs2]; clear hs2; (apply Ghost.mk [(0, 0), (1, 1)] []; (case hdead => rfl); (case hinj => rfl); (case hV => (simp only [go_sem, *]) <;> (repeat' (first | refine And.intro ?_ ?_ | exact View.int (by first | rfl | omega | (simp; done) | (rw [wrap_i64] <;> (try simp only [Int.natCast_add]) <;> omega) | (simp [*]; done)) | exact .bp rfl (by decide) | exact .own rfl (by decide)))); (case hB => (simp only [go_sem, *]) <;> (repeat' (first | refine And.intro ?_ ?_ | exact ⟨_, rfl, BView.boxF rfl⟩ | exact ⟨_, rfl, .rowE (by first | rfl | omega | (simp; done) | (rw [wrap_i64] <;> (try simp only [Int.natCast_add]) <;> omega) | (simp [*]; done))⟩)))))
          · have hlk' : ¬ (k : Int) < s.turn := by omega
            have e1 : k = s.turn.toNat := by omega
            rw [e1]
            rw [e1] at hlk'
            have hb := hrn s.turn.toNat
            have w1 : IntKind.i64.wrap ((rotN s.turn.toNat q).x + s.x) = (rotN s.turn.toNat q).x + s.x := wrap_i64 (by omega) (by omega)
            have w2 : IntKind.i64.wrap ((rotN s.turn.toNat q).y + s.y) = (rotN s.turn.toNat q).y + s.y := wrap_i64 (by omega) (by omega)
            have e3 := pts_snoc L ⟨(rotN s.turn.toNat q).x + s.x, (rotN s.turn.toNat q).y + s.y⟩
            rw [hm] at hst
            clear hm hq hbn hrn e1 hk hlk hb
            generalize rotN s.turn.toNat q = r at *
            repeat' (first
 | (apply Awp.sreg; (case hn => (simp only [List.length_cons, List.length_nil, Nat.reduceAdd] <;> rfl)))
 | (refine st_nil ?_)
 | (apply st_a; (case hc => rfl); (case he => (simp only [go_sem, *] <;> rfl)); (case hu => (simp only [updL_nil, updL_cons] <;> rfl)); (case hp => first | trivial | (simp; done) | (simp; omega)))
 | (apply Awp.reg; (case hn => (simp only [List.length_cons, List.length_nil, Nat.reduceAdd] <;> rfl)))
 | (refine Awp.exit ?_; try simp only [go_sem, *])
 | (apply Awp.cond; (case hc => (simp only [go_sem, *] <;> rfl)); all_goals (intro hg; (try simp only [Bool.not_true, Bool.not_false, reduceCtorEq] at hg)))
 | refine Awp.seq ?_)
            all_goals (refine ⟨i + 1, by omega, by omega, ?_⟩; rw [hst, ← e3]; clear hst e3; (apply Ghost.mk [(0, 216)] []; (case hdead => rfl); (case hinj => rfl); (case hV => (simp only [go_sem, *]) <;> (repeat' (first | refine And.intro ?_ ?_ | exact View.int (by first | rfl | omega | (simp; done) | (rw [wrap_i64] <;> (try simp only [Int.natCast_add]) <;> omega) | (simp [*]; done)) | exact .own rfl (by decide)))); (case hB => (simp only [go_sem, *]) <;> (repeat' (first | exact ⟨_, rfl, .rowE (by first | rfl | omega | (simp; done) | (rw [wrap_i64] <;> (try simp only [Int.natCast_add]) <;> omega) | (simp [*]; done))⟩)))))

    · have hlt' : ¬ (i : Int) < c.length := by omega
      have e1 : c.take i = c := List.take_of_length_le (by omega)
      rw [e1]
      unfold movC
      generalize c.map (movP s) = L at *
      cases hfl : s.flip
      · rw [if_neg (by decide)]
        clear hrev hc e1
        repeat' (first
 | (apply Awp.sreg; (case hn => (simp only [List.length_cons, List.length_nil, Nat.reduceAdd] <;> rfl)))
 | (refine st_nil ?_)
 | (apply st_a; (case hc => rfl); (case he => (simp only [go_sem, *] <;> rfl)); (case hu => (simp only [updL_nil, updL_cons] <;> rfl)); (case hp => first | trivial))
 | (refine Awp.ret ?_; try simp only [go_sem, *])
 | (refine Awp.skip ?_; try simp only [go_sem, *])
 | (refine Awp.exit ?_; try simp only [go_sem, *])
 | (apply Awp.cond; (case hc => (simp only [go_sem, *] <;> rfl)); all_goals (intro hg; (try simp only [Bool.not_true, Bool.not_false, reduceCtorEq] at hg)))
 | refine Awp.seq ?_)
        all_goals repeat' (first | exact Lower.ownE (by simp only [go_sem, *] <;> rfl) (by first | rfl | (simp only [true_and, Bool.true_and, Bool.false_and, Bool.and_true, Bool.and_false, Bool.true_or, Bool.false_or, reduceIte, Bool.false_eq_true, *]; done) | (simp only [true_and, reduceIte, Bool.false_eq_true, *] <;> rfl) | (simp [true_and]; done) | (simp_all [true_and]; done) | omega))
      · have hr := fun nm h => hrev hfl L nm (by omega) h
        rw [if_pos rfl]
        clear hrev hc e1
        repeat' (first
 | (apply Awp.sreg; (case hn => (simp only [List.length_cons, List.length_nil, Nat.reduceAdd] <;> rfl)))
 | (refine st_nil ?_)
 | (apply st_a; (case hc => rfl); (case he => (simp only [go_sem, *] <;> rfl)); (case hu => (simp only [updL_nil, updL_cons] <;> rfl)); (case hp => first | trivial))
 | (apply st_cc; (case hc => (simp only [go_sem, *] <;> rfl)); (case hcc => exact (hr _ (by omega))); (case hh => (first | (simp only [List.mem_singleton, forall_eq]; first | (simp only [go_sem, *] <;> rfl) | (simp only [go_sem, *]; simp [ints])) | (intro p hp; cases hp; done) | (intro p hp; simp only [List.mem_cons, List.not_mem_nil, or_false] at hp; rcases hp with rfl | rfl | rfl | rfl | rfl | rfl | rfl <;> (simp only [go_sem, *] <;> rfl)) | (intro p hp; simp only [List.mem_cons, List.not_mem_nil, or_false] at hp; rcases hp with rfl | rfl | rfl | rfl <;> (simp only [go_sem, *] <;> rfl)))); (case hu => (first | (simp; done) | decide)); (case hm => (first | decide | (simp; done))); (case hw => (simp only [updL_nil, updL_cons] <;> rfl)))
 | (apply Awp.reg; (case hn => (simp only [List.length_cons, List.length_nil, Nat.reduceAdd] <;> rfl)))
 | (refine Awp.ret ?_; try simp only [go_sem, *])
 | (refine Awp.exit ?_; try simp only [go_sem, *])
 | (apply Awp.cond; (case hc => (simp only [go_sem, *] <;> rfl)); all_goals (intro hg; (try simp only [Bool.not_true, Bool.not_false, reduceCtorEq] at hg)))
 | refine Awp.seq ?_)
        all_goals repeat' (first | exact Lower.ownE (by simp only [go_sem, *] <;> rfl) (by first | rfl | (simp only [true_and, Bool.true_and, Bool.false_and, Bool.and_true, Bool.and_false, Bool.true_or, Bool.false_or, reduceIte, Bool.false_eq_true, *]; done) | (simp only [true_and, reduceIte, Bool.false_eq_true, *] <;> rfl) | (simp [true_and]; done) | (simp_all [true_and]; done) | omega))
end Go.Proofs
end
section
set_option linter.unusedVariables false
set_option linter.unusedSimpArgs false
namespace Go.Proofs
open Go Go.Ab
set_option maxHeartbeats 8000000
set_option maxRecDepth 100000
attribute [local irreducible] Awp aops aopsL Go.Ab.Pure PureOwn
theorem View.rpB {hd : Nat → Option Blk} {ρ : Nat → Nat} {nx b : Nat} {cs : List AV} (hb : hd b = some (.box cs)) (hf : ∀ c ∈ cs, c.flat = true) : View hd ρ nx (.bp b 0) (.rp cs) := by
  have h := Lower.bp (h := hd) (b := b) (o := 0) (cs := cs) (cs' := cs) hb rfl (Nat.zero_le _) fun j hj => Lower.same _ (hf _ (av_mem hj))
  exact .low h
theorem BView.slOwn {hd : Nat → Option Blk} {ρ : Nat → Nat} {nx b n : Nat} {es : List (List AV)} (hb : ρ n = b) (hn : n < nx) : BView hd ρ nx (.box [.sl es, .own b]) (.box [.sl es, .own n]) :=
  .box rfl fun j hj => match j, hj with
    | 0, _ => .low (.same _ rfl)
    | 1, _ => .own hb hn
theorem move_bad (s : Sh) (t : Spt) (hb : badMv t = true) : Pure Tryz.prog 32 [s.av, t.av] (⟨[], []⟩ : Sh).av := by
  have c1 := far_ok ⟨t.x, t.y⟩
  unfold badMv at hb
  have e1 : pts [] = [] := rfl
  have e2 : pps [] = [] := rfl
  cases h1 : decide (t.turn < 0)
  · cases h2 : decide (3 < t.turn)
    · rw [h1, h2] at hb
      have hb : farB ⟨t.x, t.y⟩ = true := hb
      rw [hb] at c1
      refine fn_pure Tryz.F32 (Nat.le_of_ble_eq_true rfl) ?_; unfold Tryz.ac32
      repeat' (first
 | (apply Awp.sreg; (case hn => (simp only [List.length_cons, List.length_nil, Nat.reduceAdd] <;> rfl)))
 | (refine st_nil ?_)
 | (apply st_a; (case hc => rfl); (case he => (simp only [go_sem, *] <;> rfl)); (case hu => (simp only [updL_nil, updL_cons] <;> rfl)); (case hp => first | trivial))
 | (apply st_m; (case hc => rfl); (case hg => (simp only [go_sem, *] <;> rfl)); (case he => (intro hQz; (try simp only [wantB_t, wantB_f, Bool.and_eq_true, Bool.not_eq_true', Bool.not_true, Bool.not_false, and_true, true_and] at hQz); simp only [go_sem, *] <;> rfl)); (case hp => (intro hQz; (try simp only [wantB_t, wantB_f, Bool.and_eq_true, Bool.not_eq_true', Bool.or_eq_false_iff, decide_eq_true_eq, decide_eq_false_iff_not, beq_iff_eq, beq_eq_false_iff_ne, bne_iff_ne, bne_eq_false_iff_eq, Int.not_lt, Int.not_le, Int.ofNat_lt, Int.ofNat_le] at hQz); first | trivial)))
 | (apply st_mc; (case hop => rfl); (case hg => (simp only [go_sem, *] <;> rfl)); (case hc => (intro hQz; (try simp only [wantB_t, wantB_f, Bool.and_eq_true, Bool.not_eq_true', Bool.not_true, Bool.not_false, and_true, true_and] at hQz); simp only [go_sem, *] <;> rfl)); (case hl => (intro hQz; (try simp only [wantB_t, wantB_f, Bool.and_eq_true, Bool.not_eq_true', Bool.not_true, Bool.not_false, and_true, true_and] at hQz); simp only [go_sem, *] <;> rfl)); (case hn => (intro hQz; (try simp only [wantB_t, wantB_f, Bool.and_eq_true, Bool.not_eq_true', Bool.not_true, Bool.not_false, and_true, true_and] at hQz); simp only [go_sem, *] <;> rfl)); (case hp => intro hQz; first | exact c1 | (have hXz := c1; simp only [go_sem, *] at hXz; exact hXz)))
 | (refine Awp.ret ?_; try simp only [go_sem, *])
 | (apply Awp.cond; (case hc => (simp only [go_sem, *] <;> rfl)); all_goals (intro hg; (try simp only [Bool.not_true, Bool.not_false, reduceCtorEq] at hg)))
 | refine Awp.seq ?_)
      all_goals repeat' (first | exact Lower.nilE (by first | rfl | (simp only [true_and, Bool.true_and, Bool.false_and, Bool.and_true, Bool.and_false, Bool.true_or, Bool.false_or, reduceIte, Bool.false_eq_true, *]; done) | (simp only [true_and, reduceIte, Bool.false_eq_true, *] <;> rfl) | (simp [true_and]; done) | (simp_all [true_and]; done) | omega) | refine Lower.aggF ?_ | refine All2.cons ?_ ?_ | exact All2.nil)
    · clear hb c1
      refine fn_pure Tryz.F32 (Nat.le_of_ble_eq_true rfl) ?_; unfold Tryz.ac32
      repeat' (first
 | (apply Awp.sreg; (case hn => (simp only [List.length_cons, List.length_nil, Nat.reduceAdd] <;> rfl)))
 | (refine st_nil ?_)
 | (apply st_a; (case hc => rfl); (case he => (simp only [go_sem, *] <;> rfl)); (case hu => (simp only [updL_nil, updL_cons] <;> rfl)); (case hp => first | trivial))
 | (apply st_m; (case hc => rfl); (case hg => (simp only [go_sem, *] <;> rfl)); (case he => (intro hQz; (try simp only [wantB_t, wantB_f, Bool.and_eq_true, Bool.not_eq_true', Bool.not_true, Bool.not_false, and_true, true_and] at hQz); simp only [go_sem, *] <;> rfl)); (case hp => (intro hQz; (try simp only [wantB_t, wantB_f, Bool.and_eq_true, Bool.not_eq_true', Bool.or_eq_false_iff, decide_eq_true_eq, decide_eq_false_iff_not, beq_iff_eq, beq_eq_false_iff_ne, bne_iff_ne, bne_eq_false_iff_eq, Int.not_lt, Int.not_le, Int.ofNat_lt, Int.ofNat_le] at hQz); first | trivial)))
 | (apply st_g; (case hv => (simp only [go_sem, *] <;> rfl)); all_goals (intro hg; (try simp only [Bool.not_true, Bool.not_false, reduceCtorEq] at hg)))
 | (refine Awp.ret ?_; try simp only [go_sem, *])
 | (apply Awp.cond; (case hc => (simp only [go_sem, *] <;> rfl)); all_goals (intro hg; (try simp only [Bool.not_true, Bool.not_false, reduceCtorEq] at hg)))
 | refine Awp.seq ?_)
      all_goals repeat' (first | exact Lower.nilE (by first | rfl | (simp only [true_and, Bool.true_and, Bool.false_and, Bool.and_true, Bool.and_false, Bool.true_or, Bool.false_or, reduceIte, Bool.false_eq_true, *]; done) | (simp only [true_and, reduceIte, Bool.false_eq_true, *] <;> rfl) | (simp [true_and]; done) | (simp_all [true_and]; done) | omega) | refine Lower.aggF ?_ | refine All2.cons ?_ ?_ | exact All2.nil)
  · clear hb c1
    refine fn_pure Tryz.F32 (Nat.le_of_ble_eq_true rfl) ?_; unfold Tryz.ac32
    repeat' (first
 | (apply Awp.sreg; (case hn => (simp only [List.length_cons, List.length_nil, Nat.reduceAdd] <;> rfl)))
 | (refine st_nil ?_)
 | (apply st_a; (case hc => rfl); (case he => (simp only [go_sem, *] <;> rfl)); (case hu => (simp only [updL_nil, updL_cons] <;> rfl)); (case hp => first | trivial))
 | (apply st_m; (case hc => rfl); (case hg => (simp only [go_sem, *] <;> rfl)); (case he => (intro hQz; (try simp only [wantB_t, wantB_f, Bool.and_eq_true, Bool.not_eq_true', Bool.not_true, Bool.not_false, and_true, true_and] at hQz); simp only [go_sem, *] <;> rfl)); (case hp => (intro hQz; (try simp only [wantB_t, wantB_f, Bool.and_eq_true, Bool.not_eq_true', Bool.or_eq_false_iff, decide_eq_true_eq, decide_eq_false_iff_not, beq_iff_eq, beq_eq_false_iff_ne, bne_iff_ne, bne_eq_false_iff_eq, Int.not_lt, Int.not_le, Int.ofNat_lt, Int.ofNat_le] at hQz); first | trivial)))
 | (apply st_g; (case hv => (simp only [go_sem, *] <;> rfl)); all_goals (intro hg; (try simp only [Bool.not_true, Bool.not_false, reduceCtorEq] at hg)))
 | (refine Awp.ret ?_; try simp only [go_sem, *])
 | (apply Awp.cond; (case hc => (simp only [go_sem, *] <;> rfl)); all_goals (intro hg; (try simp only [Bool.not_true, Bool.not_false, reduceCtorEq] at hg)))
 | refine Awp.seq ?_)
    all_goals repeat' (first | exact Lower.nilE (by first | rfl | (simp only [true_and, Bool.true_and, Bool.false_and, Bool.and_true, Bool.and_false, Bool.true_or, Bool.false_or, reduceIte, Bool.false_eq_true, *]; done) | (simp only [true_and, reduceIte, Bool.false_eq_true, *] <;> rfl) | (simp [true_and]; done) | (simp_all [true_and]; done) | omega) | refine Lower.aggF ?_ | refine All2.cons ?_ ?_ | exact All2.nil)
theorem move_ok (s : Sh) (t : Spt) (hrev : t.flip = true → RevC) (hl : ∀ c ∈ s.out :: s.holes, c.length < 1000000) (hh : s.holes.length < 900000) : Pure Tryz.prog 32 [s.av, t.av] (moveE s t).av := by
  unfold moveE
  cases hB : badMv t
  case true =>
    rw [if_pos rfl]
    exact move_bad s t hB
  rw [if_neg (by decide)]
  unfold badMv at hB
  simp only [Bool.or_eq_false_iff] at hB
  obtain ⟨⟨h1, h2⟩, hf⟩ := hB
  have htu : 0 ≤ t.turn ∧ t.turn ≤ 3 := by
    have := of_decide_eq_false h1
    have := of_decide_eq_false h2
    omega
  have c1 := far_ok ⟨t.x, t.y⟩
  rw [hf] at c1
  have c2 := contours_ok s (by omega)
  have c3 := fun c (hc : c ∈ s.out :: s.holes) => containsPt_ok c (by have := hl c hc; omega)
  have hany : ∀ i, i < (s.out :: s.holes).length → (((s.out :: s.holes).getD i []).any farB) = true → (s.out :: s.holes).any (fun c => c.any farB) = true := fun i hi h => List.any_eq_true.2 ⟨_, getD_in _ [] i hi, h⟩
  have hno : (∀ j, j < (s.out :: s.holes).length → (((s.out :: s.holes).getD j []).any farB) = false) → (s.out :: s.holes).any (fun c => c.any farB) = false := fun h => by
    rw [List.any_eq_false]
    intro c hc
    obtain ⟨i, hi, e⟩ := in_getD _ [] c hc
    have := h i hi
    rw [e] at this
    rw [this]
    decide
  have hmv : (∀ j, j < (s.out :: s.holes).length → (((s.out :: s.holes).getD j []).any farB) = false) → ∀ c ∈ s.out :: s.holes, Pure Tryz.prog 55 [.sl (pts c), .rp t.cells] (.sl (pts (movC t c))) := fun h c hc => by
    refine moved_ok c t hrev (fun p hp => ?_) htu hf (hl c hc)
    obtain ⟨i, hi, e⟩ := in_getD _ [] c hc
    have := h i hi
    rw [e, List.any_eq_false] at this
    simpa using this p hp
  have hC : (s.out :: s.holes).length < 1000000 := by simp; omega
  have hCo : s.out :: s.holes = s.out :: s.holes := rfl
  obtain ⟨C, hCe⟩ : ∃ C, C = s.out :: s.holes := ⟨_, rfl⟩
  rw [← hCe] at c2 c3 hany hno hmv hC ⊢
  have hap : ∀ i, i < C.length → C.getD i [] ∈ C := fun i hi => getD_in C [] i hi
  change Hid (C = s.out :: s.holes) at hCe
  clear hCo hf htu hl hrev
  refine fn_pure Tryz.F32 (Nat.le_of_ble_eq_true rfl) ?_; unfold Tryz.ac32
  repeat' (first
 | (apply Awp.sreg; (case hn => (simp only [List.length_cons, List.length_nil, Nat.reduceAdd] <;> rfl)))
 | (refine st_nil ?_)
 | (apply st_a; (case hc => rfl); (case he => (simp only [go_sem, *] <;> rfl)); (case hu => (simp only [updL_nil, updL_cons] <;> rfl)); (case hp => first | trivial))
 | (apply st_m; (case hc => rfl); (case hg => (simp only [go_sem, *] <;> rfl)); (case he => (intro hQz; (try simp only [wantB_t, wantB_f, Bool.and_eq_true, Bool.not_eq_true', Bool.not_true, Bool.not_false, and_true, true_and] at hQz); simp only [go_sem, *] <;> rfl)); (case hp => (intro hQz; (try simp only [wantB_t, wantB_f, Bool.and_eq_true, Bool.not_eq_true', Bool.or_eq_false_iff, decide_eq_true_eq, decide_eq_false_iff_not, beq_iff_eq, beq_eq_false_iff_ne, bne_iff_ne, bne_eq_false_iff_eq, Int.not_lt, Int.not_le, Int.ofNat_lt, Int.ofNat_le] at hQz); first | trivial)))
 | (apply st_mc; (case hop => rfl); (case hg => (simp only [go_sem, *] <;> rfl)); (case hc => (intro hQz; (try simp only [wantB_t, wantB_f, Bool.and_eq_true, Bool.not_eq_true', Bool.not_true, Bool.not_false, and_true, true_and] at hQz); simp only [go_sem, *] <;> rfl)); (case hl => (intro hQz; (try simp only [wantB_t, wantB_f, Bool.and_eq_true, Bool.not_eq_true', Bool.not_true, Bool.not_false, and_true, true_and] at hQz); simp only [go_sem, *] <;> rfl)); (case hn => (intro hQz; (try simp only [wantB_t, wantB_f, Bool.and_eq_true, Bool.not_eq_true', Bool.not_true, Bool.not_false, and_true, true_and] at hQz); simp only [go_sem, *] <;> rfl)); (case hp => intro hQz; first | exact c1 | (have hXz := c1; simp only [go_sem, *] at hXz; exact hXz)))
 | (apply st_c; (case hc => (simp only [go_sem, *] <;> rfl)); (case hl => (simp only [go_sem, *] <;> rfl)); (case hn => (simp only [go_sem, *] <;> rfl)); (case hp => first | exact c2 | (have hXz := c2; simp only [go_sem, *] at hXz; exact hXz)))
 | (refine Awp.skip ?_; try simp only [go_sem, *])
 | refine Awp.block ?_
 | (apply Awp.cond; (case hc => (simp only [go_sem, *] <;> rfl)); all_goals (intro hg; (try simp only [Bool.not_true, Bool.not_false, reduceCtorEq] at hg)))
 | refine Awp.seq ?_)
  clear c1 c2 h1 h2
  refine Awp.loop (fun i : Nat => i ≤ C.length ∧ ∀ j, j < i → ((C.getD j []).any farB) = false) 80 (fun i => mkS [(2, .bp 0 0), (3, .rp t.cells), (4, .bp 1 0), (26, .sl (pps C)), (27, .v (.int .i64 C.length)), (28, .v (.int .i64 i))] [(0, .box s.cells), (1, .box [.nils, .nils])]) (fun i => C.length - i) 0 (by simp) ?_ ?_
  · clear c3 hany hno hmv hap
    (apply Ghost.mk [(0, 0), (1, 2)] [1]; (case hdead => rfl); (case hinj => rfl); (case hV => (simp only [go_sem, *]) <;> (repeat' (first | refine And.intro ?_ ?_ | exact View.int (by first | rfl | omega | (simp; done) | (rw [wrap_i64] <;> (try simp only [Int.natCast_add]) <;> omega) | (simp [*]; done)) | exact .bp rfl (by decide) | exact View.rpB rfl (by simp [AV.flat])))); (case hB => (simp only [go_sem, *]) <;> (repeat' (first | refine And.intro ?_ ?_ | exact ⟨_, rfl, BView.boxF rfl⟩))))
  · intro i ⟨hi, hj⟩
    by_cases hlt : i < C.length
    · have hlt' : (i : Int) < C.length := by omega
      have hat := pps_at C i hlt
      have k3 := c3 _ (hap i hlt)
      cases hv : (C.getD i []).any farB
      · have hnx := ltSucc (P := fun j => ((C.getD j []).any farB) = false) hj hv
        rw [hv] at k3
        clear hj c3 hany hno hmv hap
        generalize C.getD i [] = c at *
        repeat' (first
 | (apply Awp.sreg; (case hn => (simp only [List.length_cons, List.length_nil, Nat.reduceAdd] <;> rfl)))
 | (refine st_nil ?_)
 | (apply st_a; (case hc => rfl); (case he => (simp only [go_sem, *] <;> rfl)); (case hu => (simp only [updL_nil, updL_cons] <;> rfl)); (case hp => first | trivial | omega))
 | (apply st_c; (case hc => (simp only [go_sem, *] <;> rfl)); (case hl => (simp only [go_sem, *] <;> rfl)); (case hn => (simp only [go_sem, *] <;> rfl)); (case hp => first | exact k3 | (have hXz := k3; simp only [go_sem, *] at hXz; exact hXz)))
 | (apply Awp.reg; (case hn => (simp only [List.length_cons, List.length_nil, Nat.reduceAdd] <;> rfl)))
 | (refine Awp.skip ?_; try simp only [go_sem, *])
 | refine Awp.block ?_
 | (apply Awp.cond; (case hc => (simp only [go_sem, *] <;> rfl)); all_goals (intro hg; (try simp only [Bool.not_true, Bool.not_false, reduceCtorEq] at hg)))
 | refine Awp.seq ?_)
        all_goals (refine ⟨i + 1, ⟨by omega, hnx⟩, by omega, ?_⟩; clear hnx; (apply Ghost.mk [(0, 0), (1, 1)] []; (case hdead => rfl); (case hinj => rfl); (case hV => (simp only [go_sem, *]) <;> (repeat' (first | refine And.intro ?_ ?_ | exact View.int (by first | rfl | omega | (simp; done) | (rw [wrap_i64] <;> (try simp only [Int.natCast_add]) <;> omega) | (simp [*]; done)) | exact .bp rfl (by decide)))); (case hB => (simp only [go_sem, *]) <;> (repeat' (first | refine And.intro ?_ ?_ | exact ⟨_, rfl, BView.boxF rfl⟩)))))
      · rw [hany i hlt hv, if_pos rfl]
        rw [hv] at k3
        have e1 : pts [] = [] := rfl
        have e2 : pps [] = [] := rfl
        clear hj c3 hany hno hmv hap
        generalize C.getD i [] = c at *
        repeat' (first
 | (apply Awp.sreg; (case hn => (simp only [List.length_cons, List.length_nil, Nat.reduceAdd] <;> rfl)))
 | (refine st_nil ?_)
 | (apply st_a; (case hc => rfl); (case he => (simp only [go_sem, *] <;> rfl)); (case hu => (simp only [updL_nil, updL_cons] <;> rfl)); (case hp => first | trivial | omega))
 | (apply st_c; (case hc => (simp only [go_sem, *] <;> rfl)); (case hl => (simp only [go_sem, *] <;> rfl)); (case hn => (simp only [go_sem, *] <;> rfl)); (case hp => first | exact k3 | (have hXz := k3; simp only [go_sem, *] at hXz; exact hXz)))
 | (refine Awp.ret ?_; try simp only [go_sem, *])
 | (refine Awp.skip ?_; try simp only [go_sem, *])
 | refine Awp.block ?_
 | (apply Awp.cond; (case hc => (simp only [go_sem, *] <;> rfl)); all_goals (intro hg; (try simp only [Bool.not_true, Bool.not_false, reduceCtorEq] at hg)))
 | refine Awp.seq ?_)
        all_goals repeat' (first | exact Lower.nilE (by first | rfl | (simp only [true_and, Bool.true_and, Bool.false_and, Bool.and_true, Bool.and_false, Bool.true_or, Bool.false_or, reduceIte, Bool.false_eq_true, *]; done) | (simp only [true_and, reduceIte, Bool.false_eq_true, *] <;> rfl) | (simp [true_and]; done) | (simp_all [true_and]; done) | omega) | refine Lower.aggF ?_ | refine All2.cons ?_ ?_ | exact All2.nil)
    · have hlt' : ¬ (i : Int) < C.length := by omega
      have hall : ∀ j, j < C.length → ((C.getD j []).any farB) = false := fun j h => hj j (by omega)
      rw [hno hall, if_neg (by decide)]
      have hm := hmv hall
      have hCe : C = s.out :: s.holes := hCe
      have m0 := hm s.out (by rw [hCe]; simp)
      have mh : ∀ k, k < s.holes.length → Pure Tryz.prog 55 [.sl (pts (s.holes.getD k [])), .rp t.cells] (.sl (pts (movC t (s.holes.getD k [])))) := fun k hk => hm _ (by rw [hCe]; exact List.mem_cons_of_mem _ (getD_in _ [] k hk))
      have hst : ∀ k, k < s.holes.length → (s.holes.take (k + 1)).map (movC t) = (s.holes.take k).map (movC t) ++ [movC t (s.holes.getD k [])] := fun k hk => by rw [take_snoc s.holes [] k hk]; simp
      clear hj c3 hany hno hmv hap hall hm hCe hlt hi hC
      repeat' (first
 | (apply Awp.sreg; (case hn => (simp only [List.length_cons, List.length_nil, Nat.reduceAdd] <;> rfl)))
 | (refine st_nil ?_)
 | (apply st_a; (case hc => rfl); (case he => (simp only [go_sem, *] <;> rfl)); (case hu => (simp only [updL_nil, updL_cons] <;> rfl)); (case hp => first | trivial))
 | (apply st_c; (case hc => (simp only [go_sem, *] <;> rfl)); (case hl => (simp only [go_sem, *] <;> rfl)); (case hn => (simp only [go_sem, *] <;> rfl)); (case hp => first | exact m0 | (have hXz := m0; simp only [go_sem, *] at hXz; exact hXz)))
 | (refine Awp.exit ?_; try simp only [go_sem, *])
 | refine Awp.block ?_
 | (apply Awp.cond; (case hc => (simp only [go_sem, *] <;> rfl)); all_goals (intro hg; (try simp only [Bool.not_true, Bool.not_false, reduceCtorEq] at hg)))
 | refine Awp.seq ?_)
      clear m0
      refine Awp.loop (fun k : Nat => k ≤ s.holes.length) 200 (fun k => mkS [(4, .bp 0 0), (7, .fn 55 [.rp t.cells]), (8, .bp 1 0), (43, .sl (pps s.holes)), (44, .v (.int .i64 s.holes.length)), (45, .v (.int .i64 k))] [(0, .box [.nils, .nils]), (1, .box [.sl (pts (movC t s.out)), .own 2]), (2, .row (pps ((s.holes.take k).map (movC t))) 1 40)]) (fun k => s.holes.length - k) 0 (by omega) ?_ ?_
      · refine Ghost.trans (Ghost.nameBoxAt 88 1 1 40 rfl (Nat.le_of_ble_eq_true rfl) rfl rfl (by decide)) ?_
        have e1 : pps ((s.holes.take 0).map (movC t)) = [] := rfl
        rw [e1]
        clear hst mh
        (apply Ghost.mk [(0, 1), (1, 88), (2, 94)] []; (case hdead => rfl); (case hinj => rfl); (case hV => (simp only [go_sem, *]) <;> (repeat' (first | refine And.intro ?_ ?_ | exact View.int (by first | rfl | omega | (simp; done) | (rw [wrap_i64] <;> (try simp only [Int.natCast_add]) <;> omega) | (simp [*]; done)) | exact .bp rfl (by decide) | (refine View.fnF ?_; (simp [AV.flat]; done))))); (case hB => (simp only [go_sem, *]) <;> (repeat' (first | refine And.intro ?_ ?_ | exact ⟨_, rfl, BView.slOwn rfl (by decide)⟩ | exact ⟨_, rfl, BView.boxF rfl⟩ | exact ⟨_, rfl, .rowE (by first | rfl | omega | (simp; done) | (rw [wrap_i64] <;> (try simp only [Int.natCast_add]) <;> omega) | (simp [*]; done))⟩))))
      · intro k hk
        by_cases hlk : k < s.holes.length
        · have hlk' : (k : Int) < s.holes.length := by omega
          have hatk := pps_at s.holes k hlk
          have hs := hst k hlk
          have hm := mh k hlk
          have hln : ((s.holes.take k).map (movC t)).length = k := by simp; omega
          clear hst mh
          generalize s.holes.getD k [] = c at *
          generalize (s.holes.take k).map (movC t) = L at *
          generalize movC t c = c2 at *
          have e3 := pps_snoc L c2
          repeat' (first
 | (apply Awp.sreg; (case hn => (simp only [List.length_cons, List.length_nil, Nat.reduceAdd] <;> rfl)))
 | (refine st_nil ?_)
 | (apply st_a; (case hc => rfl); (case he => (simp only [go_sem, *] <;> rfl)); (case hu => (simp only [updL_nil, updL_cons] <;> rfl)); (case hp => first | trivial | omega))
 | (apply Awp.reg; (case hn => (simp only [List.length_cons, List.length_nil, Nat.reduceAdd] <;> rfl)))
 | (refine Awp.skip ?_; try simp only [go_sem, *])
 | refine Awp.block ?_
 | (apply Awp.cond; (case hc => (simp only [go_sem, *] <;> rfl)); all_goals (intro hg; (try simp only [Bool.not_true, Bool.not_false, reduceCtorEq] at hg)))
 | refine Awp.seq ?_
 | (refine Awp.draw ?_)
 | (apply sl_a; (case hc => rfl); (case he => (simp only [go_sem, *] <;> rfl)); (case hu => (simp only [updL_nil, updL_cons] <;> rfl)); (case hl => (simp only [List.map_cons, List.map_nil] <;> rfl)); (case hp => first | trivial | (simp; done) | (simp; omega)))
 | (apply sl_c; (case hc => (simp only [go_sem, *] <;> rfl)); (case hl => (simp only [go_sem, *] <;> rfl)); (case hn => (simp only [go_sem, *] <;> rfl)); (case hp => first | exact hm | (have hXz := hm; simp only [go_sem, *] at hXz; exact hXz)); (case hd => first | exact .inl rfl | exact .inr (.v _) | exact .inr .any | exact .inr .nils | (refine .inr ?_; (repeat' (first | exact Dry.v _ | exact Dry.any | exact Dry.nils | exact Dry.slE | refine Dry.agg ?_ | refine Dry.tup ?_ | (refine List.forall_mem_cons.2 (And.intro ?_ ?_)) | (intro cQ hQ; cases hQ; done))); done)); (case hm => first | decide | (simp; done)))
 | (refine sl_nil (And.intro (by first | exact drawOk_of (by decide +kernel) | (simp only [List.map_cons, List.map_nil]; exact drawOk_of (by decide +kernel)) | decide) ?_)))
          all_goals (refine ⟨k + 1, by omega, by omega, ?_⟩; rw [hs, ← e3]; clear hs e3 hm; (apply Ghost.mk [(0, 0), (1, 1), (2, 210)] []; (case hdead => rfl); (case hinj => rfl); (case hV => (simp only [go_sem, *]) <;> (repeat' (first | refine And.intro ?_ ?_ | exact View.int (by first | rfl | omega | (simp; done) | (rw [wrap_i64] <;> (try simp only [Int.natCast_add]) <;> omega) | (simp [*]; done)) | exact .bp rfl (by decide) | (refine View.fnF ?_; (simp [AV.flat]; done))))); (case hB => (simp only [go_sem, *]) <;> (repeat' (first | refine And.intro ?_ ?_ | exact ⟨_, rfl, BView.slOwn rfl (by decide)⟩ | exact ⟨_, rfl, BView.boxF rfl⟩ | exact ⟨_, rfl, .rowE (by first | rfl | omega | (simp; done) | (rw [wrap_i64] <;> (try simp only [Int.natCast_add]) <;> omega) | (simp [*]; done))⟩)))))
        · have hlk' : ¬ (k : Int) < s.holes.length := by omega
          have e1 : s.holes.take k = s.holes := List.take_of_length_le (by omega)
          rw [e1]
          clear e1 hst mh
          repeat' (first
 | (apply Awp.sreg; (case hn => (simp only [List.length_cons, List.length_nil, Nat.reduceAdd] <;> rfl)))
 | (refine st_nil ?_)
 | (apply st_a; (case hc => rfl); (case he => (simp only [go_sem, *] <;> rfl)); (case hu => (simp only [updL_nil, updL_cons] <;> rfl)); (case hp => first | trivial))
 | (refine Awp.ret ?_; try simp only [go_sem, *])
 | (refine Awp.exit ?_; try simp only [go_sem, *])
 | (apply Awp.cond; (case hc => (simp only [go_sem, *] <;> rfl)); all_goals (intro hg; (try simp only [Bool.not_true, Bool.not_false, reduceCtorEq] at hg)))
 | refine Awp.seq ?_)
          all_goals repeat' (first | exact Lower.ownE (by simp only [go_sem, *] <;> rfl) (by first | rfl | (simp only [true_and, Bool.true_and, Bool.false_and, Bool.and_true, Bool.and_false, Bool.true_or, Bool.false_or, reduceIte, Bool.false_eq_true, *]; done) | (simp only [true_and, reduceIte, Bool.false_eq_true, *] <;> rfl) | (simp [true_and]; done) | (simp_all [true_and]; done) | omega) | exact Lower.slE' (by first | rfl | (simp only [true_and, Bool.true_and, Bool.false_and, Bool.and_true, Bool.and_false, Bool.true_or, Bool.false_or, reduceIte, Bool.false_eq_true, *]; done) | (simp only [true_and, reduceIte, Bool.false_eq_true, *] <;> rfl) | (simp [true_and]; done) | (simp_all [true_and]; done) | omega) | refine Lower.aggF ?_ | refine All2.cons ?_ ?_ | exact All2.nil)
end Go.Proofs
end
section
set_option linter.unusedVariables false
set_option linter.unusedSimpArgs false
namespace Go.Proofs
open Go Go.Ab
set_option maxHeartbeats 8000000
set_option maxRecDepth 100000
attribute [local irreducible] Awp aops aopsL Go.Ab.Pure PureOwn
theorem foldl_tkI (f : Int → Int → Int) (b : Int) (l : List Int) (i : Nat) (h : i < l.length) : (l.take (i + 1)).foldl f b = f ((l.take i).foldl f b) (l.getD i 0) := by
  rw [take_snoc l 0 i h, List.foldl_append]; rfl
theorem ext_ok (a : Int) (l : List Int) (hl : l.length < 1000000) : Pure Tryz.prog 57 [.v (.int .i64 a), .sl (ints l)] (.tup [.v (.int .i64 (loE l a)), .v (.int .i64 (hiE l a))]) := by
  refine fn_pure Tryz.F57 (Nat.le_of_ble_eq_true rfl) ?_; unfold Tryz.ac57
  repeat' (first
 | (apply Awp.sreg; (case hn => (simp only [List.length_cons, List.length_nil, Nat.reduceAdd] <;> rfl)))
 | (refine st_nil ?_)
 | (apply st_a; (case hc => rfl); (case he => (simp only [go_sem, *] <;> rfl)); (case hu => (simp only [updL_nil, updL_cons] <;> rfl)); (case hp => first | trivial))
 | refine Awp.block ?_
 | refine Awp.seq ?_)
  refine Awp.loop (fun i : Nat => i ≤ l.length) 60 (fun i => mkS [(4, .v (.int .i64 (loE (l.take i) a))), (5, .v (.int .i64 (hiE (l.take i) a))), (10, .sl (ints l)), (11, .v (.int .i64 l.length)), (12, .v (.int .i64 i))] []) (fun i => l.length - i) 0 (by omega) ?_ ?_
  · have e1 : loE (l.take 0) a = a := rfl
    have e2 : hiE (l.take 0) a = a := rfl
    rw [e1, e2]
    (apply Ghost.mk [] []; (case hdead => rfl); (case hinj => rfl); (case hV => (simp only [go_sem, *]) <;> (repeat' (first | exact View.int (by first | rfl | omega | (simp; done) | (rw [wrap_i64] <;> (try simp only [Int.natCast_add]) <;> omega) | (simp [*]; done))))); (case hB => (simp only [go_sem, *]) <;> (repeat' (first | skip; done))))
  · intro i hi
    by_cases hlt : i < l.length
    · have hlt' : (i : Int) < l.length := by omega
      have hat := ints_at l i hlt
      have s1 := foldl_tkI min a l i hlt
      have s2 := foldl_tkI max a l i hlt
      unfold loE hiE
      generalize l.getD i 0 = x at *
      generalize (l.take i).foldl min a = A at *
      generalize (l.take i).foldl max a = B at *
      have e1 := mnI A x
      have e2 := mxI B x
      repeat' (first
 | (apply Awp.sreg; (case hn => (simp only [List.length_cons, List.length_nil, Nat.reduceAdd] <;> rfl)))
 | (refine st_nil ?_)
 | (apply st_a; (case hc => rfl); (case he => (simp only [go_sem, *] <;> rfl)); (case hu => (simp only [updL_nil, updL_cons] <;> rfl)); (case hp => first | trivial | omega))
 | (apply Awp.reg; (case hn => (simp only [List.length_cons, List.length_nil, Nat.reduceAdd] <;> rfl)))
 | (refine Awp.skip ?_; try simp only [go_sem, *])
 | refine Awp.block ?_
 | (apply Awp.cond; (case hc => (simp only [go_sem, *] <;> rfl)); all_goals (intro hg; (try simp only [Bool.not_true, Bool.not_false, reduceCtorEq] at hg)))
 | refine Awp.seq ?_)
      all_goals (refine ⟨i + 1, by omega, by omega, ?_⟩; rw [s1, s2]; clear s1 s2; (apply Ghost.mk [] []; (case hdead => rfl); (case hinj => rfl); (case hV => (simp only [go_sem, *]) <;> (repeat' (first | exact View.int (by first | rfl | omega | (simp; done) | (rw [wrap_i64] <;> (try simp only [Int.natCast_add]) <;> omega) | (simp [*]; done))))); (case hB => (simp only [go_sem, *]) <;> (repeat' (first | skip; done)))))
    · have hlt' : ¬ (i : Int) < l.length := by omega
      have e1 : l.take i = l := List.take_of_length_le (by omega)
      rw [e1]
      clear e1
      repeat' (first
 | (apply Awp.sreg; (case hn => (simp only [List.length_cons, List.length_nil, Nat.reduceAdd] <;> rfl)))
 | (refine st_nil ?_)
 | (apply st_a; (case hc => rfl); (case he => (simp only [go_sem, *] <;> rfl)); (case hu => (simp only [updL_nil, updL_cons] <;> rfl)); (case hp => first | trivial))
 | (refine Awp.ret ?_; try simp only [go_sem, *])
 | (refine Awp.exit ?_; try simp only [go_sem, *])
 | (apply Awp.cond; (case hc => (simp only [go_sem, *] <;> rfl)); all_goals (intro hg; (try simp only [Bool.not_true, Bool.not_false, reduceCtorEq] at hg)))
 | refine Awp.seq ?_)
      all_goals repeat' (first | exact Lower.int (by first | rfl | (simp only [true_and, Bool.true_and, Bool.false_and, Bool.and_true, Bool.and_false, Bool.true_or, Bool.false_or, reduceIte, Bool.false_eq_true, *]; done) | (simp only [true_and, reduceIte, Bool.false_eq_true, *] <;> rfl) | (simp [true_and]; done) | (simp_all [true_and]; done) | omega) | refine Lower.tupF ?_ | refine All2.cons ?_ ?_ | exact All2.nil)
theorem pbnd_ok (l : List Pt) (hl : l.length < 1000000) : Pure Tryz.prog 33 [.sl (pts l)] (bndE l).av := by
  by_cases h0 : l = []
  · subst h0
    have hz0 : (((0 : Nat) : Int) == 0) = true := rfl
    have e1 : pts [] = [] := rfl
    have e2 : bndE [] = ⟨0, 0, 0, 0⟩ := rfl
    rw [e1, e2]
    clear e1 e2
    refine fn_pure Tryz.F33 (Nat.le_of_ble_eq_true rfl) ?_; unfold Tryz.ac33
    repeat' (first
 | (apply Awp.sreg; (case hn => (simp only [List.length_cons, List.length_nil, Nat.reduceAdd] <;> rfl)))
 | (refine st_nil ?_)
 | (apply st_a; (case hc => rfl); (case he => (simp only [go_sem, *] <;> rfl)); (case hu => (simp only [updL_nil, updL_cons] <;> rfl)); (case hp => first | trivial))
 | (refine Awp.ret ?_; try simp only [go_sem, *])
 | (apply Awp.cond; (case hc => (simp only [go_sem, *] <;> rfl)); all_goals (intro hg; (try simp only [Bool.not_true, Bool.not_false, reduceCtorEq] at hg)))
 | refine Awp.seq ?_)
    all_goals repeat' (first | exact Lower.int (by first | rfl | (simp only [true_and, Bool.true_and, Bool.false_and, Bool.and_true, Bool.and_false, Bool.true_or, Bool.false_or, reduceIte, Bool.false_eq_true, *]; done) | (simp only [true_and, reduceIte, Bool.false_eq_true, *] <;> rfl) | (simp [true_and]; done) | (simp_all [true_and]; done) | omega) | refine Lower.aggF ?_ | refine All2.cons ?_ ?_ | exact All2.nil)
  have hpos := List.length_pos_iff.2 h0
  have hne : ((l.length : Int) == 0) = false := by rw [beq_eq_false_iff_ne]; omega
  have hx0 : (l.map Pt.x).getD 0 0 = (l.getD 0 zeroPt).x := by
    cases l with
    | nil => exact absurd rfl h0
    | cons p l => rfl
  have hy0 : (l.map Pt.y).getD 0 0 = (l.getD 0 zeroPt).y := by
    cases l with
    | nil => exact absurd rfl h0
    | cons p l => rfl
  have hax := ints_at (l.map Pt.x) 0 (by simpa using hpos)
  have hay := ints_at (l.map Pt.y) 0 (by simpa using hpos)
  rw [hx0] at hax
  rw [hy0] at hay
  have c1 := ext_ok (l.getD 0 zeroPt).x (l.map Pt.x) (by simpa using hl)
  have c2 := ext_ok (l.getD 0 zeroPt).y (l.map Pt.y) (by simpa using hl)
  have hlx : (ints (l.map Pt.x)).length = l.length := by rw [ints_len]; simp
  have hly : (ints (l.map Pt.y)).length = l.length := by rw [ints_len]; simp
  have hp0 : (0 : Int) < l.length := by omega
  have hb : bndE l = ⟨loE (l.map Pt.x) (l.getD 0 zeroPt).x, loE (l.map Pt.y) (l.getD 0 zeroPt).y, hiE (l.map Pt.x) (l.getD 0 zeroPt).x, hiE (l.map Pt.y) (l.getD 0 zeroPt).y⟩ := rfl
  rw [hb]
  clear hb hx0 hy0 h0
  generalize loE (l.map Pt.x) (l.getD 0 zeroPt).x = R1 at *
  generalize loE (l.map Pt.y) (l.getD 0 zeroPt).y = R2 at *
  generalize hiE (l.map Pt.x) (l.getD 0 zeroPt).x = R3 at *
  generalize hiE (l.map Pt.y) (l.getD 0 zeroPt).y = R4 at *
  refine fn_pure Tryz.F33 (Nat.le_of_ble_eq_true rfl) ?_; unfold Tryz.ac33
  repeat' (first
 | (apply Awp.sreg; (case hn => (simp only [List.length_cons, List.length_nil, Nat.reduceAdd] <;> rfl)))
 | (refine st_nil ?_)
 | (apply st_a; (case hc => rfl); (case he => (simp only [go_sem, *] <;> rfl)); (case hu => (simp only [updL_nil, updL_cons] <;> rfl)); (case hp => first | trivial))
 | (refine Awp.skip ?_; try simp only [go_sem, *])
 | refine Awp.block ?_
 | (apply Awp.cond; (case hc => (simp only [go_sem, *] <;> rfl)); all_goals (intro hg; (try simp only [Bool.not_true, Bool.not_false, reduceCtorEq] at hg)))
 | refine Awp.seq ?_)
  refine Awp.loop (fun i : Nat => i ≤ l.length) 60 (fun i => mkS [(2, .bp 0 0), (3, .own 1), (4, .own 2), (11, .sl (pts l)), (12, .v (.int .i64 l.length)), (13, .v (.int .i64 i))] [(0, .box [.v (.int .i64 0), .v (.int .i64 0), .v (.int .i64 0), .v (.int .i64 0)]), (1, .row (ints ((l.take i).map Pt.x)) 1 3), (2, .row (ints ((l.take i).map Pt.y)) 1 3)]) (fun i => l.length - i) 0 (by omega) ?_ ?_
  · refine Ghost.trans (Ghost.name 3 1 3 rfl (by decide)) ?_
    refine Ghost.trans (Ghost.name 4 1 3 rfl (by decide)) ?_
    have e1 : ints ((l.take 0).map Pt.x) = [] := rfl
    have e2 : ints ((l.take 0).map Pt.y) = [] := rfl
    rw [e1, e2]
    clear c1 c2 hax hay
    (apply Ghost.mk [(0, 0), (1, 9), (2, 10)] []; (case hdead => rfl); (case hinj => rfl); (case hV => (simp only [go_sem, *]) <;> (repeat' (first | refine And.intro ?_ ?_ | exact View.int (by first | rfl | omega | (simp; done) | (rw [wrap_i64] <;> (try simp only [Int.natCast_add]) <;> omega) | (simp [*]; done)) | exact .bp rfl (by decide) | exact .own rfl (by decide)))); (case hB => (simp only [go_sem, *]) <;> (repeat' (first | refine And.intro ?_ ?_ | exact ⟨_, rfl, BView.boxF rfl⟩ | exact ⟨_, rfl, .rowE (by first | rfl | omega | (simp; done) | (rw [wrap_i64] <;> (try simp only [Int.natCast_add]) <;> omega) | (simp [*]; done))⟩))))
  · intro i hi
    by_cases hlt : i < l.length
    · have hlt' : (i : Int) < l.length := by omega
      have hat := pts_at l i hlt
      have hz : ((l.getD i zeroPt).cells).length = 2 := rfl
      have s1 : ints ((l.take (i + 1)).map Pt.x) = ints ((l.take i).map Pt.x) ++ [[.v (.int .i64 (l.getD i zeroPt).x)]] := by rw [take_snoc l zeroPt i hlt]; simp [ints]
      have s2 : ints ((l.take (i + 1)).map Pt.y) = ints ((l.take i).map Pt.y) ++ [[.v (.int .i64 (l.getD i zeroPt).y)]] := by rw [take_snoc l zeroPt i hlt]; simp [ints]
      have l1 : (ints ((l.take i).map Pt.x)).length = i := by rw [ints_len]; simp; omega
      have l2 : (ints ((l.take i).map Pt.y)).length = i := by rw [ints_len]; simp; omega
      clear c1 c2 hax hay hlx hly
      generalize l.getD i zeroPt = p at *
      generalize ints ((l.take i).map Pt.x) = X at *
      generalize ints ((l.take i).map Pt.y) = Y at *
      repeat' (first
 | (apply Awp.sreg; (case hn => (simp only [List.length_cons, List.length_nil, Nat.reduceAdd] <;> rfl)))
 | (refine st_nil ?_)
 | (apply st_a; (case hc => rfl); (case he => (simp only [go_sem, *] <;> rfl)); (case hu => (simp only [updL_nil, updL_cons] <;> rfl)); (case hp => first | trivial | omega))
 | (apply Awp.reg; (case hn => (simp only [List.length_cons, List.length_nil, Nat.reduceAdd] <;> rfl)))
 | (refine Awp.skip ?_; try simp only [go_sem, *])
 | refine Awp.block ?_
 | (apply Awp.cond; (case hc => (simp only [go_sem, *] <;> rfl)); all_goals (intro hg; (try simp only [Bool.not_true, Bool.not_false, reduceCtorEq] at hg)))
 | refine Awp.seq ?_
 | (refine Awp.draw ?_)
 | (apply sl_a; (case hc => rfl); (case he => (simp only [go_sem, *] <;> rfl)); (case hu => (simp only [updL_nil, updL_cons] <;> rfl)); (case hl => (simp only [List.map_cons, List.map_nil] <;> rfl)); (case hp => first | trivial | (simp; done) | (simp; omega)))
 | (refine sl_nil (And.intro (by first | exact drawOk_of (by decide +kernel) | (simp only [List.map_cons, List.map_nil]; exact drawOk_of (by decide +kernel)) | decide) ?_)))
      all_goals (refine ⟨i + 1, by omega, by omega, ?_⟩; rw [s1, s2]; clear s1 s2; (apply Ghost.mk [(0, 0), (1, 69), (2, 74)] []; (case hdead => rfl); (case hinj => rfl); (case hV => (simp only [go_sem, *]) <;> (repeat' (first | refine And.intro ?_ ?_ | exact View.int (by first | rfl | omega | (simp; done) | (rw [wrap_i64] <;> (try simp only [Int.natCast_add]) <;> omega) | (simp [*]; done)) | exact .bp rfl (by decide) | exact .own rfl (by decide)))); (case hB => (simp only [go_sem, *]) <;> (repeat' (first | refine And.intro ?_ ?_ | exact ⟨_, rfl, BView.boxF rfl⟩ | exact ⟨_, rfl, .rowE (by first | rfl | omega | (simp; done) | (rw [wrap_i64] <;> (try simp only [Int.natCast_add]) <;> omega) | (simp [*]; done))⟩)))))
    · have hlt' : ¬ (i : Int) < l.length := by omega
      have e1 : l.take i = l := List.take_of_length_le (by omega)
      rw [e1]
      clear e1
      generalize ints (l.map Pt.x) = X at *
      generalize ints (l.map Pt.y) = Y at *
      repeat' (first
 | (apply Awp.sreg; (case hn => (simp only [List.length_cons, List.length_nil, Nat.reduceAdd] <;> rfl)))
 | (refine st_nil ?_)
 | (apply st_a; (case hc => rfl); (case he => (simp only [go_sem, *] <;> rfl)); (case hu => (simp only [updL_nil, updL_cons] <;> rfl)); (case hp => first | trivial))
 | (apply st_cd; (case hc => (simp only [go_sem, *] <;> rfl)); (case hl => (simp only [go_sem, *] <;> rfl)); (case hn => (simp only [go_sem, *] <;> rfl)); (case hp => first | exact c1 | (have hXz := c1; simp only [go_sem, *] at hXz; exact hXz)); (case hd => first | exact .v _ | exact .any | exact .nils | (repeat' (first | exact Dry.v _ | exact Dry.any | exact Dry.nils | exact Dry.slE | refine Dry.agg ?_ | refine Dry.tup ?_ | (refine List.forall_mem_cons.2 (And.intro ?_ ?_)) | (intro cQ hQ; cases hQ; done)))); (case hm => first | decide | (simp; done)))
 | (apply st_cd; (case hc => (simp only [go_sem, *] <;> rfl)); (case hl => (simp only [go_sem, *] <;> rfl)); (case hn => (simp only [go_sem, *] <;> rfl)); (case hp => first | exact c2 | (have hXz := c2; simp only [go_sem, *] at hXz; exact hXz)); (case hd => first | exact .v _ | exact .any | exact .nils | (repeat' (first | exact Dry.v _ | exact Dry.any | exact Dry.nils | exact Dry.slE | refine Dry.agg ?_ | refine Dry.tup ?_ | (refine List.forall_mem_cons.2 (And.intro ?_ ?_)) | (intro cQ hQ; cases hQ; done)))); (case hm => first | decide | (simp; done)))
 | (refine Awp.ret ?_; try simp only [go_sem, *])
 | (refine Awp.exit ?_; try simp only [go_sem, *])
 | (apply Awp.cond; (case hc => (simp only [go_sem, *] <;> rfl)); all_goals (intro hg; (try simp only [Bool.not_true, Bool.not_false, reduceCtorEq] at hg)))
 | refine Awp.seq ?_)
      all_goals repeat' (first | exact Lower.int (by first | rfl | (simp only [true_and, Bool.true_and, Bool.false_and, Bool.and_true, Bool.and_false, Bool.true_or, Bool.false_or, reduceIte, Bool.false_eq_true, *]; done) | (simp only [true_and, reduceIte, Bool.false_eq_true, *] <;> rfl) | (simp [true_and]; done) | (simp_all [true_and]; done) | omega) | refine Lower.aggF ?_ | refine All2.cons ?_ ?_ | exact All2.nil)
theorem bnd_ok (s : Sh) (hl : s.out.length < 1000000) : Pure Tryz.prog 15 [s.av] (bndE s.out).av := by
  have c := pbnd_ok s.out hl
  refine fn_pure Tryz.F15 (Nat.le_of_ble_eq_true rfl) ?_; unfold Tryz.ac15
  repeat' (first
 | (apply Awp.sreg; (case hn => (simp only [List.length_cons, List.length_nil, Nat.reduceAdd] <;> rfl)))
 | (refine st_nil ?_)
 | (apply st_a; (case hc => rfl); (case he => (simp only [go_sem, *] <;> rfl)); (case hu => (simp only [updL_nil, updL_cons] <;> rfl)); (case hp => first | trivial))
 | (apply st_c; (case hc => (simp only [go_sem, *] <;> rfl)); (case hl => (simp only [go_sem, *] <;> rfl)); (case hn => (simp only [go_sem, *] <;> rfl)); (case hp => first | exact c | (have hXz := c; simp only [go_sem, *] at hXz; exact hXz)))
 | (refine Awp.ret ?_; try simp only [go_sem, *]))
  all_goals repeat' (first | exact Lower.int (by first | rfl | (simp only [true_and, Bool.true_and, Bool.false_and, Bool.and_true, Bool.and_false, Bool.true_or, Bool.false_or, reduceIte, Bool.false_eq_true, *]; done) | (simp only [true_and, reduceIte, Bool.false_eq_true, *] <;> rfl) | (simp [true_and]; done) | (simp_all [true_and]; done) | omega) | refine Lower.aggF ?_ | refine All2.cons ?_ ?_ | exact All2.nil)
def spErr (ps : List Pa) (t : Spt) : Int := if (partE ps t.part).2 = true then if placedB t = true then 0 else 9 else 8
def shapeOf (ps : List Pa) (t : Spt) : Sh := moveE (partE ps t.part).1.sh t
def shapesE (ts : List Spt) (ps : List Pa) : List Sh × Int := match ts.find? (fun t => spErr ps t != 0) with
  | some t => ([], spErr ps t)
  | none => (ts.map (shapeOf ps), 0)
theorem shapes_some {ts : List Spt} {ps : List Pa} {i : Nat} (hi : i < ts.length) (h : (spErr ps (ts.getD i zeroSpt) != 0) = true) (hj : ∀ j, j < i → (spErr ps (ts.getD j zeroSpt) != 0) = false) : shapesE ts ps = ([], spErr ps (ts.getD i zeroSpt)) := by
  have e : ts.find? (fun t => spErr ps t != 0) = some (ts.getD i zeroSpt) := by
    rw [List.find?_eq_some_iff_getElem]
    refine ⟨h, i, hi, by simp [List.getD_eq_getElem?_getD, hi], fun j hji => ?_⟩
    have := hj j hji
    rw [List.getD_eq_getElem?_getD, List.getElem?_eq_getElem (by omega), Option.getD_some] at this
    simpa using this
  unfold shapesE
  rw [e]
theorem shapes_none {ts : List Spt} {ps : List Pa} (hj : ∀ j, j < ts.length → (spErr ps (ts.getD j zeroSpt) != 0) = false) : shapesE ts ps = (ts.map (shapeOf ps), 0) := by
  have e : ts.find? (fun t => spErr ps t != 0) = none := by
    rw [List.find?_eq_none]
    intro t ht
    obtain ⟨j, hjl, e⟩ := in_getD ts zeroSpt t ht
    have := hj j hjl
    rw [e] at this
    rw [this]
    decide
  unfold shapesE
  rw [e]
def nestAv (sh : ByteArray) (gap : Int) (ts : List Spt) : AV := .agg [.v (.string sh), .v (.int .i64 gap), .sl (spts ts)]
attribute [go_sem] nestAv
structure FewP (ts : List Spt) (ps : List Pa) : Prop where
  pl : ps.length < 1000000
  tl : ts.length < 1000000
  rev : (∃ t ∈ ts, t.flip = true) → RevC
  cs : ∀ p ∈ ps, p.sh.out.length < 1000000 ∧ p.sh.holes.length < 900000 ∧ ∀ c ∈ p.sh.holes, c.length < 1000000
theorem part_few {ts : List Spt} {ps : List Pa} (h : FewP ts ps) (s : ByteArray) : (partE ps s).1.sh.holes.length < 900000 ∧ ∀ c ∈ (partE ps s).1.sh.out :: (partE ps s).1.sh.holes, c.length < 1000000 := by
  unfold partE
  cases hA : ps.any (isPa s)
  · rw [if_neg (by decide)]
    refine ⟨by simp [zeroPa], fun c hc => ?_⟩
    simp only [zeroPa, List.mem_cons, List.not_mem_nil, or_false] at hc
    rw [hc]; simp
  · rw [if_pos rfl]
    have hin : ps.findIdx (isPa s) < ps.length := List.findIdx_lt_length_of_exists (by
      obtain ⟨x, hx, hp⟩ := List.any_eq_true.1 hA
      exact ⟨x, hx, hp⟩)
    have hm := h.cs _ (getD_in ps zeroPa _ hin)
    simp only []
    refine ⟨hm.2.1, fun c hc => ?_⟩
    rcases List.mem_cons.1 hc with e | hc
    · rw [e]; exact hm.1
    · exact hm.2.2 c hc
theorem shapes_ok (nm : ByteArray) (gap : Int) (ts : List Spt) (ps : List Pa) (h : FewP ts ps) : Pure Tryz.prog 14 [nestAv nm gap ts, .sl (pas ps)] (.tup [.sl (shs (shapesE ts ps).1), .v (.int .i64 (shapesE ts ps).2)]) := by
  have hfew := fun s => part_few h s
  have hrev := h.rev
  have kp := fun s => part_ok ps s h.pl
  have htl := h.tl
  clear h
  refine fn_pure Tryz.F14 (Nat.le_of_ble_eq_true rfl) ?_; unfold Tryz.ac14
  repeat' (first
 | (apply Awp.sreg; (case hn => (simp only [List.length_cons, List.length_nil, Nat.reduceAdd] <;> rfl)))
 | (refine st_nil ?_)
 | (apply st_a; (case hc => rfl); (case he => (simp only [go_sem, *] <;> rfl)); (case hu => (simp only [updL_nil, updL_cons] <;> rfl)); (case hp => first | trivial))
 | refine Awp.block ?_
 | refine Awp.seq ?_)
  refine Awp.loop (fun i : Nat => i ≤ ts.length ∧ ∀ j, j < i → (spErr ps (ts.getD j zeroSpt) != 0) = false) 60 (fun i => mkS [(1, .sl (pas ps)), (4, .own 0), (11, .sl (spts ts)), (12, .v (.int .i64 ts.length)), (13, .v (.int .i64 i))] [(0, .row (shs ((ts.take i).map (shapeOf ps))) 2 43)]) (fun i => ts.length - i) 0 (by simp) ?_ ?_
  · refine Ghost.trans (Ghost.name 4 2 43 rfl (by decide)) ?_
    have e1 : shs ((ts.take 0).map (shapeOf ps)) = [] := rfl
    rw [e1]
    clear hfew hrev kp
    (apply Ghost.mk [(0, 7)] []; (case hdead => rfl); (case hinj => rfl); (case hV => (simp only [go_sem, *]) <;> (repeat' (first | refine And.intro ?_ ?_ | exact View.int (by first | rfl | omega | (simp; done) | (rw [wrap_i64] <;> (try simp only [Int.natCast_add]) <;> omega) | (simp [*]; done)) | exact .own rfl (by decide)))); (case hB => (simp only [go_sem, *]) <;> (repeat' (first | exact ⟨_, rfl, .rowE (by first | rfl | omega | (simp; done) | (rw [wrap_i64] <;> (try simp only [Int.natCast_add]) <;> omega) | (simp [*]; done))⟩))))
  · intro i ⟨hi, hj⟩
    by_cases hlt : i < ts.length
    · have hlt' : (i : Int) < ts.length := by omega
      have hat := spts_at ts i hlt
      have hz : ((ts.getD i zeroSpt).cells).length = 5 := rfl
      have k1 := kp (ts.getD i zeroSpt).part
      have k2 := placed_ok (ts.getD i zeroSpt)
      cases hf : (partE ps (ts.getD i zeroSpt).part).2
      · have he : spErr ps (ts.getD i zeroSpt) = 8 := by unfold spErr; rw [hf]; rfl
        have hs := shapes_some hlt (by rw [he]; rfl) hj
        rw [hs, he]
        rw [hf] at k1
        have e1 : shs [] = [] := rfl
        clear hj hs he hfew hrev kp k2 hf
        generalize (partE ps (ts.getD i zeroSpt).part).1 = pa at *
        generalize ts.getD i zeroSpt = t at *
        repeat' (first
 | (apply Awp.sreg; (case hn => (simp only [List.length_cons, List.length_nil, Nat.reduceAdd] <;> rfl)))
 | (refine st_nil ?_)
 | (apply st_a; (case hc => rfl); (case he => (simp only [go_sem, *] <;> rfl)); (case hu => (simp only [updL_nil, updL_cons] <;> rfl)); (case hp => first | trivial | omega))
 | (apply st_c; (case hc => (simp only [go_sem, *] <;> rfl)); (case hl => (simp only [go_sem, *] <;> rfl)); (case hn => (simp only [go_sem, *] <;> rfl)); (case hp => first | exact k1 | (have hXz := k1; simp only [go_sem, *] at hXz; exact hXz)))
 | (refine Awp.ret ?_; try simp only [go_sem, *])
 | (refine Awp.skip ?_; try simp only [go_sem, *])
 | refine Awp.block ?_
 | (apply Awp.cond; (case hc => (simp only [go_sem, *] <;> rfl)); all_goals (intro hg; (try simp only [Bool.not_true, Bool.not_false, reduceCtorEq] at hg)))
 | refine Awp.seq ?_)
        all_goals repeat' (first | exact Lower.int (by first | rfl | (simp only [true_and, Bool.true_and, Bool.false_and, Bool.and_true, Bool.and_false, Bool.true_or, Bool.false_or, reduceIte, Bool.false_eq_true, *]; done) | (simp only [true_and, reduceIte, Bool.false_eq_true, *] <;> rfl) | (simp [true_and]; done) | (simp_all [true_and]; done) | omega) | exact Lower.nilE (by first | rfl | (simp only [true_and, Bool.true_and, Bool.false_and, Bool.and_true, Bool.and_false, Bool.true_or, Bool.false_or, reduceIte, Bool.false_eq_true, *]; done) | (simp only [true_and, reduceIte, Bool.false_eq_true, *] <;> rfl) | (simp [true_and]; done) | (simp_all [true_and]; done) | omega) | refine Lower.tupF ?_ | refine All2.cons ?_ ?_ | exact All2.nil)
      · cases hp : placedB (ts.getD i zeroSpt)
        · have he : spErr ps (ts.getD i zeroSpt) = 9 := by unfold spErr; rw [hf, hp]; rfl
          have hs := shapes_some hlt (by rw [he]; rfl) hj
          rw [hs, he]
          rw [hf] at k1
          rw [hp] at k2
          have e1 : shs [] = [] := rfl
          clear hj hs he hfew hrev kp hf hp
          generalize (partE ps (ts.getD i zeroSpt).part).1 = pa at *
          generalize ts.getD i zeroSpt = t at *
          repeat' (first
 | (apply Awp.sreg; (case hn => (simp only [List.length_cons, List.length_nil, Nat.reduceAdd] <;> rfl)))
 | (refine st_nil ?_)
 | (apply st_a; (case hc => rfl); (case he => (simp only [go_sem, *] <;> rfl)); (case hu => (simp only [updL_nil, updL_cons] <;> rfl)); (case hp => first | trivial | omega))
 | (apply st_c; (case hc => (simp only [go_sem, *] <;> rfl)); (case hl => (simp only [go_sem, *] <;> rfl)); (case hn => (simp only [go_sem, *] <;> rfl)); (case hp => first | exact k1 | (have hXz := k1; simp only [go_sem, *] at hXz; exact hXz)))
 | (apply st_c; (case hc => (simp only [go_sem, *] <;> rfl)); (case hl => (simp only [go_sem, *] <;> rfl)); (case hn => (simp only [go_sem, *] <;> rfl)); (case hp => first | exact k2 | (have hXz := k2; simp only [go_sem, *] at hXz; exact hXz)))
 | (refine Awp.ret ?_; try simp only [go_sem, *])
 | (refine Awp.skip ?_; try simp only [go_sem, *])
 | refine Awp.block ?_
 | (apply Awp.cond; (case hc => (simp only [go_sem, *] <;> rfl)); all_goals (intro hg; (try simp only [Bool.not_true, Bool.not_false, reduceCtorEq] at hg)))
 | refine Awp.seq ?_)
          all_goals repeat' (first | exact Lower.int (by first | rfl | (simp only [true_and, Bool.true_and, Bool.false_and, Bool.and_true, Bool.and_false, Bool.true_or, Bool.false_or, reduceIte, Bool.false_eq_true, *]; done) | (simp only [true_and, reduceIte, Bool.false_eq_true, *] <;> rfl) | (simp [true_and]; done) | (simp_all [true_and]; done) | omega) | exact Lower.nilE (by first | rfl | (simp only [true_and, Bool.true_and, Bool.false_and, Bool.and_true, Bool.and_false, Bool.true_or, Bool.false_or, reduceIte, Bool.false_eq_true, *]; done) | (simp only [true_and, reduceIte, Bool.false_eq_true, *] <;> rfl) | (simp [true_and]; done) | (simp_all [true_and]; done) | omega) | refine Lower.tupF ?_ | refine All2.cons ?_ ?_ | exact All2.nil)
        · have he : spErr ps (ts.getD i zeroSpt) = 0 := by unfold spErr; rw [hf, hp]; rfl
          have hnx := ltSucc (P := fun j => (spErr ps (ts.getD j zeroSpt) != 0) = false) hj (by rw [he]; rfl)
          rw [hf] at k1
          rw [hp] at k2
          have hst : (ts.take (i + 1)).map (shapeOf ps) = (ts.take i).map (shapeOf ps) ++ [moveE (partE ps (ts.getD i zeroSpt).part).1.sh (ts.getD i zeroSpt)] := by rw [take_snoc ts zeroSpt i hlt]; simp [shapeOf]
          have hln : ((ts.take i).map (shapeOf ps)).length = i := by simp; omega
          have hfw := hfew (ts.getD i zeroSpt).part
          have k3 := move_ok (partE ps (ts.getD i zeroSpt).part).1.sh (ts.getD i zeroSpt) (fun h => hrev ⟨_, getD_in ts zeroSpt i hlt, h⟩) hfw.2 hfw.1
          have e3 := shs_snoc ((ts.take i).map (shapeOf ps)) (moveE (partE ps (ts.getD i zeroSpt).part).1.sh (ts.getD i zeroSpt))
          clear hj he hfew hrev kp hf hp hfw
          generalize moveE (partE ps (ts.getD i zeroSpt).part).1.sh (ts.getD i zeroSpt) = M at *
          generalize (partE ps (ts.getD i zeroSpt).part).1 = pa at *
          generalize (ts.take i).map (shapeOf ps) = L at *
          generalize ts.getD i zeroSpt = t at *
          repeat' (first
 | (apply Awp.sreg; (case hn => (simp only [List.length_cons, List.length_nil, Nat.reduceAdd] <;> rfl)))
 | (refine st_nil ?_)
 | (apply st_a; (case hc => rfl); (case he => (simp only [go_sem, *] <;> rfl)); (case hu => (simp only [updL_nil, updL_cons] <;> rfl)); (case hp => first | trivial | omega | (simp; done) | (simp; omega)))
 | (apply st_c; (case hc => (simp only [go_sem, *] <;> rfl)); (case hl => (simp only [go_sem, *] <;> rfl)); (case hn => (simp only [go_sem, *] <;> rfl)); (case hp => first | exact k1 | (have hXz := k1; simp only [go_sem, *] at hXz; exact hXz)))
 | (apply st_c; (case hc => (simp only [go_sem, *] <;> rfl)); (case hl => (simp only [go_sem, *] <;> rfl)); (case hn => (simp only [go_sem, *] <;> rfl)); (case hp => first | exact k2 | (have hXz := k2; simp only [go_sem, *] at hXz; exact hXz)))
 | (apply st_c; (case hc => (simp only [go_sem, *] <;> rfl)); (case hl => (simp only [go_sem, *] <;> rfl)); (case hn => (simp only [go_sem, *] <;> rfl)); (case hp => first | exact k3 | (have hXz := k3; simp only [go_sem, *] at hXz; exact hXz)))
 | (apply Awp.reg; (case hn => (simp only [List.length_cons, List.length_nil, Nat.reduceAdd] <;> rfl)))
 | (refine Awp.skip ?_; try simp only [go_sem, *])
 | refine Awp.block ?_
 | (apply Awp.cond; (case hc => (simp only [go_sem, *] <;> rfl)); all_goals (intro hg; (try simp only [Bool.not_true, Bool.not_false, reduceCtorEq] at hg)))
 | refine Awp.seq ?_)
          all_goals (refine ⟨i + 1, ⟨by omega, hnx⟩, by omega, ?_⟩; rw [hst, ← e3]; clear hst hnx e3 k1 k2 k3; (apply Ghost.mk [(0, 86)] []; (case hdead => rfl); (case hinj => rfl); (case hV => (simp only [go_sem, *]) <;> (repeat' (first | refine And.intro ?_ ?_ | exact View.int (by first | rfl | omega | (simp; done) | (rw [wrap_i64] <;> (try simp only [Int.natCast_add]) <;> omega) | (simp [*]; done)) | exact .own rfl (by decide)))); (case hB => (simp only [go_sem, *]) <;> (repeat' (first | exact ⟨_, rfl, .rowE (by first | rfl | omega | (simp; done) | (rw [wrap_i64] <;> (try simp only [Int.natCast_add]) <;> omega) | (simp [*]; done))⟩)))))
    · have hlt' : ¬ (i : Int) < ts.length := by omega
      have e1 : ts.take i = ts := List.take_of_length_le (by omega)
      rw [shapes_none fun j h => hj j (by omega), e1]
      clear e1 hj hfew hrev kp
      repeat' (first
 | (apply Awp.sreg; (case hn => (simp only [List.length_cons, List.length_nil, Nat.reduceAdd] <;> rfl)))
 | (refine st_nil ?_)
 | (apply st_a; (case hc => rfl); (case he => (simp only [go_sem, *] <;> rfl)); (case hu => (simp only [updL_nil, updL_cons] <;> rfl)); (case hp => first | trivial))
 | (refine Awp.ret ?_; try simp only [go_sem, *])
 | (refine Awp.exit ?_; try simp only [go_sem, *])
 | (apply Awp.cond; (case hc => (simp only [go_sem, *] <;> rfl)); all_goals (intro hg; (try simp only [Bool.not_true, Bool.not_false, reduceCtorEq] at hg)))
 | refine Awp.seq ?_)
      all_goals repeat' (first | exact Lower.int (by first | rfl | (simp only [true_and, Bool.true_and, Bool.false_and, Bool.and_true, Bool.and_false, Bool.true_or, Bool.false_or, reduceIte, Bool.false_eq_true, *]; done) | (simp only [true_and, reduceIte, Bool.false_eq_true, *] <;> rfl) | (simp [true_and]; done) | (simp_all [true_and]; done) | omega) | exact Lower.ownE (by simp only [go_sem, *] <;> rfl) (by first | rfl | (simp only [true_and, Bool.true_and, Bool.false_and, Bool.and_true, Bool.and_false, Bool.true_or, Bool.false_or, reduceIte, Bool.false_eq_true, *]; done) | (simp only [true_and, reduceIte, Bool.false_eq_true, *] <;> rfl) | (simp [true_and]; done) | (simp_all [true_and]; done) | omega) | refine Lower.tupF ?_ | refine All2.cons ?_ ?_ | exact All2.nil)
def takenE (ts : List Spt) (ps : List Pa) : List Rc × Int := if ((shapesE ts ps).2 != 0) = true then ([], (shapesE ts ps).2) else ((shapesE ts ps).1.map fun s => bndE s.out, 0)
theorem shapes_few {ts : List Spt} {ps : List Pa} (h : FewP ts ps) : (shapesE ts ps).1.length < 1000000 ∧ ∀ s ∈ (shapesE ts ps).1, s.out.length < 1000000 := by
  have hmv : ∀ t, (shapeOf ps t).out.length < 1000000 := fun t => by
    have := part_few h t.part
    have h2 := this.2 _ (List.mem_cons_self)
    unfold shapeOf moveE movC
    split
    · simp
    · split
      · simp
      · simp only []
        split
        · simpa using h2
        · simpa using h2
  unfold shapesE
  split
  · exact ⟨by simp, fun s hs => by cases hs⟩
  · refine ⟨by simpa using h.tl, fun s hs => ?_⟩
    obtain ⟨t, _, rfl⟩ := List.mem_map.1 hs
    exact hmv t
theorem taken_ok (nm : ByteArray) (gap : Int) (ts : List Spt) (ps : List Pa) (h : FewP ts ps) : Pure Tryz.prog 6 [nestAv nm gap ts, .sl (pas ps)] (.tup [.sl (rcs (takenE ts ps).1), .v (.int .i64 (takenE ts ps).2)]) := by
  have k1 := shapes_ok nm gap ts ps h
  obtain ⟨hS1, hS2⟩ := shapes_few h
  unfold takenE
  clear h
  generalize (shapesE ts ps).1 = S at *
  generalize (shapesE ts ps).2 = e at *
  cases he : (e != 0)
  case true =>
    rw [if_pos rfl]
    have e1 : rcs [] = [] := rfl
    clear hS2
    refine fn_pure Tryz.F6 (Nat.le_of_ble_eq_true rfl) ?_; unfold Tryz.ac6
    repeat' (first
 | (apply Awp.sreg; (case hn => (simp only [List.length_cons, List.length_nil, Nat.reduceAdd] <;> rfl)))
 | (refine st_nil ?_)
 | (apply st_a; (case hc => rfl); (case he => (simp only [go_sem, *] <;> rfl)); (case hu => (simp only [updL_nil, updL_cons] <;> rfl)); (case hp => first | trivial))
 | (apply st_c; (case hc => (simp only [go_sem, *] <;> rfl)); (case hl => (simp only [go_sem, *] <;> rfl)); (case hn => (simp only [go_sem, *] <;> rfl)); (case hp => first | exact k1 | (have hXz := k1; simp only [go_sem, *] at hXz; exact hXz)))
 | (refine Awp.ret ?_; try simp only [go_sem, *])
 | (apply Awp.cond; (case hc => (simp only [go_sem, *] <;> rfl)); all_goals (intro hg; (try simp only [Bool.not_true, Bool.not_false, reduceCtorEq] at hg)))
 | refine Awp.seq ?_)
    all_goals repeat' (first | exact Lower.int (by first | rfl | (simp only [true_and, Bool.true_and, Bool.false_and, Bool.and_true, Bool.and_false, Bool.true_or, Bool.false_or, reduceIte, Bool.false_eq_true, *]; done) | (simp only [true_and, reduceIte, Bool.false_eq_true, *] <;> rfl) | (simp [true_and]; done) | (simp_all [true_and]; done) | omega) | exact Lower.nilE (by first | rfl | (simp only [true_and, Bool.true_and, Bool.false_and, Bool.and_true, Bool.and_false, Bool.true_or, Bool.false_or, reduceIte, Bool.false_eq_true, *]; done) | (simp only [true_and, reduceIte, Bool.false_eq_true, *] <;> rfl) | (simp [true_and]; done) | (simp_all [true_and]; done) | omega) | refine Lower.tupF ?_ | refine All2.cons ?_ ?_ | exact All2.nil)
  rw [if_neg (by decide)]
  have kb := fun s hs => bnd_ok s (hS2 s hs)
  have hin := fun i (h : i < S.length) => getD_in S zeroSh i h
  clear hS2
  refine fn_pure Tryz.F6 (Nat.le_of_ble_eq_true rfl) ?_; unfold Tryz.ac6
  repeat' (first
 | (apply Awp.sreg; (case hn => (simp only [List.length_cons, List.length_nil, Nat.reduceAdd] <;> rfl)))
 | (refine st_nil ?_)
 | (apply st_a; (case hc => rfl); (case he => (simp only [go_sem, *] <;> rfl)); (case hu => (simp only [updL_nil, updL_cons] <;> rfl)); (case hp => first | trivial))
 | (apply st_c; (case hc => (simp only [go_sem, *] <;> rfl)); (case hl => (simp only [go_sem, *] <;> rfl)); (case hn => (simp only [go_sem, *] <;> rfl)); (case hp => first | exact k1 | (have hXz := k1; simp only [go_sem, *] at hXz; exact hXz)))
 | (refine Awp.skip ?_; try simp only [go_sem, *])
 | refine Awp.block ?_
 | (apply Awp.cond; (case hc => (simp only [go_sem, *] <;> rfl)); all_goals (intro hg; (try simp only [Bool.not_true, Bool.not_false, reduceCtorEq] at hg)))
 | refine Awp.seq ?_)
  clear k1
  refine Awp.loop (fun i : Nat => i ≤ S.length) 60 (fun i => mkS [(4, .own 0), (18, .sl (shs S)), (19, .v (.int .i64 S.length)), (20, .v (.int .i64 i))] [(0, .row (rcs ((S.take i).map fun s => bndE s.out)) 4 54)]) (fun i => S.length - i) 0 (by omega) ?_ ?_
  · refine Ghost.trans (Ghost.name 4 4 54 rfl (by decide)) ?_
    have e1 : rcs ((S.take 0).map fun s => bndE s.out) = [] := rfl
    rw [e1]
    clear kb hin
    (apply Ghost.mk [(0, 16)] []; (case hdead => rfl); (case hinj => rfl); (case hV => (simp only [go_sem, *]) <;> (repeat' (first | refine And.intro ?_ ?_ | exact View.int (by first | rfl | omega | (simp; done) | (rw [wrap_i64] <;> (try simp only [Int.natCast_add]) <;> omega) | (simp [*]; done)) | exact .own rfl (by decide)))); (case hB => (simp only [go_sem, *]) <;> (repeat' (first | exact ⟨_, rfl, .rowE (by first | rfl | omega | (simp; done) | (rw [wrap_i64] <;> (try simp only [Int.natCast_add]) <;> omega) | (simp [*]; done))⟩))))
  · intro i hi
    by_cases hlt : i < S.length
    · have hlt' : (i : Int) < S.length := by omega
      have hat := shs_at S i hlt
      have hz : ((S.getD i zeroSh).cells).length = 2 := rfl
      have k2 := kb _ (hin i hlt)
      have hst : (S.take (i + 1)).map (fun s => bndE s.out) = (S.take i).map (fun s => bndE s.out) ++ [bndE (S.getD i zeroSh).out] := by rw [take_snoc S zeroSh i hlt]; simp
      have hln : ((S.take i).map fun s => bndE s.out).length = i := by simp; omega
      have e3 := rcs_snocC ((S.take i).map fun s => bndE s.out) (bndE (S.getD i zeroSh).out)
      clear kb hin
      generalize bndE (S.getD i zeroSh).out = B at *
      generalize (S.take i).map (fun s => bndE s.out) = L at *
      generalize S.getD i zeroSh = s at *
      repeat' (first
 | (apply Awp.sreg; (case hn => (simp only [List.length_cons, List.length_nil, Nat.reduceAdd] <;> rfl)))
 | (refine st_nil ?_)
 | (apply st_a; (case hc => rfl); (case he => (simp only [go_sem, *] <;> rfl)); (case hu => (simp only [updL_nil, updL_cons] <;> rfl)); (case hp => first | trivial | omega | (simp; done) | (simp; omega)))
 | (apply st_c; (case hc => (simp only [go_sem, *] <;> rfl)); (case hl => (simp only [go_sem, *] <;> rfl)); (case hn => (simp only [go_sem, *] <;> rfl)); (case hp => first | exact k2 | (have hXz := k2; simp only [go_sem, *] at hXz; exact hXz)))
 | (apply Awp.reg; (case hn => (simp only [List.length_cons, List.length_nil, Nat.reduceAdd] <;> rfl)))
 | (refine Awp.skip ?_; try simp only [go_sem, *])
 | refine Awp.block ?_
 | (apply Awp.cond; (case hc => (simp only [go_sem, *] <;> rfl)); all_goals (intro hg; (try simp only [Bool.not_true, Bool.not_false, reduceCtorEq] at hg)))
 | refine Awp.seq ?_)
      all_goals (refine ⟨i + 1, by omega, by omega, ?_⟩; rw [hst, ← e3]; clear hst e3 k2; (apply Ghost.mk [(0, 69)] []; (case hdead => rfl); (case hinj => rfl); (case hV => (simp only [go_sem, *]) <;> (repeat' (first | refine And.intro ?_ ?_ | exact View.int (by first | rfl | omega | (simp; done) | (rw [wrap_i64] <;> (try simp only [Int.natCast_add]) <;> omega) | (simp [*]; done)) | exact .own rfl (by decide)))); (case hB => (simp only [go_sem, *]) <;> (repeat' (first | exact ⟨_, rfl, .rowE (by first | rfl | omega | (simp; done) | (rw [wrap_i64] <;> (try simp only [Int.natCast_add]) <;> omega) | (simp [*]; done))⟩)))))
    · have hlt' : ¬ (i : Int) < S.length := by omega
      have e1 : S.take i = S := List.take_of_length_le (by omega)
      rw [e1]
      clear e1 kb hin
      repeat' (first
 | (apply Awp.sreg; (case hn => (simp only [List.length_cons, List.length_nil, Nat.reduceAdd] <;> rfl)))
 | (refine st_nil ?_)
 | (apply st_a; (case hc => rfl); (case he => (simp only [go_sem, *] <;> rfl)); (case hu => (simp only [updL_nil, updL_cons] <;> rfl)); (case hp => first | trivial))
 | (refine Awp.ret ?_; try simp only [go_sem, *])
 | (refine Awp.exit ?_; try simp only [go_sem, *])
 | (apply Awp.cond; (case hc => (simp only [go_sem, *] <;> rfl)); all_goals (intro hg; (try simp only [Bool.not_true, Bool.not_false, reduceCtorEq] at hg)))
 | refine Awp.seq ?_)
      all_goals repeat' (first | exact Lower.int (by first | rfl | (simp only [true_and, Bool.true_and, Bool.false_and, Bool.and_true, Bool.and_false, Bool.true_or, Bool.false_or, reduceIte, Bool.false_eq_true, *]; done) | (simp only [true_and, reduceIte, Bool.false_eq_true, *] <;> rfl) | (simp [true_and]; done) | (simp_all [true_and]; done) | omega) | exact Lower.ownE (by simp only [go_sem, *] <;> rfl) (by first | rfl | (simp only [true_and, Bool.true_and, Bool.false_and, Bool.and_true, Bool.and_false, Bool.true_or, Bool.false_or, reduceIte, Bool.false_eq_true, *]; done) | (simp only [true_and, reduceIte, Bool.false_eq_true, *] <;> rfl) | (simp [true_and]; done) | (simp_all [true_and]; done) | omega) | refine Lower.tupF ?_ | refine All2.cons ?_ ?_ | exact All2.nil)
end Go.Proofs
end
section
set_option linter.unusedVariables false
set_option linter.unusedSimpArgs false
namespace Go.Proofs
def revM (l : List Pt) (i : Nat) : List Pt := (List.range l.length).map fun k => if k < i ∨ l.length - 1 - i < k then l.getD (l.length - 1 - k) zeroPt else l.getD k zeroPt
theorem revM_len (l : List Pt) (i : Nat) : (revM l i).length = l.length := by simp [revM]
theorem revM_at (l : List Pt) (i k : Nat) (h : k < l.length) : (revM l i).getD k zeroPt = if k < i ∨ l.length - 1 - i < k then l.getD (l.length - 1 - k) zeroPt else l.getD k zeroPt := by
  simp [revM, List.getD_eq_getElem?_getD, h]
theorem list_extD {l m : List Pt} (h1 : l.length = m.length) (h : ∀ k, k < l.length → l.getD k zeroPt = m.getD k zeroPt) : l = m := by
  refine List.ext_getElem h1 fun k hk hk2 => ?_
  have := h k hk
  simpa [List.getD_eq_getElem?_getD, hk, hk2] using this
theorem revM_zero (l : List Pt) : revM l 0 = l := by
  refine list_extD (revM_len l 0) fun k hk => ?_
  rw [revM_len] at hk
  rw [revM_at l 0 k hk, if_neg (by omega)]
theorem rev_at (l : List Pt) (k : Nat) (h : k < l.length) : l.reverse.getD k zeroPt = l.getD (l.length - 1 - k) zeroPt := by
  rw [List.getD_eq_getElem?_getD, List.getD_eq_getElem?_getD, List.getElem?_reverse h]
theorem revM_end (l : List Pt) (i : Nat) (h : l.length ≤ 2 * i + 1) (h2 : 2 * i ≤ l.length) : revM l i = l.reverse := by
  refine list_extD (by rw [revM_len]; simp) fun k hk => ?_
  rw [revM_len] at hk
  rw [revM_at l i k hk, rev_at l k hk]
  split
  · rfl
  · have : l.length - 1 - k = k := by omega
    rw [this]
theorem setD (l : List Pt) (i k : Nat) (x : Pt) (hi : i < l.length) : (l.set i x).getD k zeroPt = if i = k then x else l.getD k zeroPt := by
  simp only [List.getD_eq_getElem?_getD, List.getElem?_set]
  by_cases h : i = k
  · subst h; simp [hi]
  · simp [h]
theorem revM_step (l : List Pt) (i : Nat) (h : 2 * i + 1 < l.length) : ((revM l i).set i ((revM l i).getD (l.length - 1 - i) zeroPt)).set (l.length - 1 - i) ((revM l i).getD i zeroPt) = revM l (i + 1) := by
  refine list_extD (by simp [revM_len]) fun k hk => ?_
  simp only [List.length_set, revM_len] at hk
  rw [setD _ _ _ _ (by simp [revM_len]; omega), setD _ _ _ _ (by rw [revM_len]; omega), revM_at l (i + 1) k hk, revM_at l i k hk, revM_at l i (l.length - 1 - i) (by omega), revM_at l i i (by omega)]
  rw [if_neg (show ¬ (l.length - 1 - i < i ∨ l.length - 1 - i < l.length - 1 - i) by omega), if_neg (show ¬ (i < i ∨ l.length - 1 - i < i) by omega)]
  by_cases h1 : l.length - 1 - i = k
  · rw [if_pos h1, if_pos (by omega), ← h1]
    congr 1
    omega
  · rw [if_neg h1]
    by_cases h2 : i = k
    · rw [if_pos h2, if_pos (by omega), h2]
    · rw [if_neg h2]
      by_cases h3 : k < i ∨ l.length - 1 - i < k
      · rw [if_pos h3, if_pos (by omega)]
      · rw [if_neg h3, if_neg (by omega)]
end Go.Proofs
end
section
set_option linter.unusedVariables false
set_option linter.unusedSimpArgs false
namespace Go.Proofs
open Go Go.Ab
set_option maxHeartbeats 8000000
set_option maxRecDepth 100000
attribute [local irreducible] Awp aops aopsL Go.Ab.Pure PureOwn
theorem pts_set (l : List Pt) (k : Nat) (x : Pt) : (pts l).set k [.v (.int .i64 x.x), .v (.int .i64 x.y)] = pts (l.set k x) := by
  simp [pts, Pt.cells, List.map_set]
theorem rev_ok : RevC := by
  intro l nm hl hnm
  refine fn_cc Tryz.F56 (Nat.le_of_ble_eq_true rfl) (bs := 1) ?_ ?_ ?_ ?_ ?_ ?_ ?_
  · simp
  · simpa using hnm
  · simp
  · simp
  · simp only [List.map_cons, List.map_nil, List.mem_cons, List.not_mem_nil, or_false]
    rintro p rfl
    exact .row rfl
  · intro j hj
    match j, hj with
    | 0, _ => exact .own rfl (by simp)
  · unfold Tryz.ac56
    have hav0 : av [AV.own 0] 0 = AV.own 0 := rfl
    have hll := pts_len l
    have w0 : IntKind.i64.wrap ((l.length : Int) - 1) = (l.length : Int) - 1 := wrap_i64 (by omega) (by omega)
    repeat' (first
 | (apply Awp.sreg; (case hn => (simp only [List.length_cons, List.length_nil, Nat.reduceAdd] <;> rfl)))
 | (refine st_nil ?_)
 | (apply st_a; (case hc => rfl); (case he => (simp only [go_sem, *] <;> rfl)); (case hu => (simp only [updL_nil, updL_cons] <;> rfl)); (case hp => first | trivial))
 | refine Awp.block ?_)
    refine Awp.loop (fun i : Nat => 2 * i ≤ l.length) 20 (fun i => mkS [(0, .own 0), (2, .v (.int .i64 i)), (3, .v (.int .i64 ((l.length : Int) - 1 - i)))] [(0, .row (pts (revM l i)) 2 52)]) (fun i => l.length - i) 0 (by omega) ?_ ?_
    · rw [revM_zero]
      (apply Ghost.mkB []; (case hnb => rfl); (case hbx => omega); (case hinj => rfl); (case hV => (simp only [go_sem, *]) <;> (repeat' (first | refine And.intro ?_ ?_ | exact View.int (by first | rfl | omega | (simp; done) | (rw [wrap_i64] <;> (try simp only [Int.natCast_add]) <;> omega) | (simp [*]; done)) | exact .own rfl (by decide)))); (case hB => (simp only [go_sem, *]) <;> (repeat' (first | exact ⟨_, rfl, .rowE (by first | rfl | omega | (simp; done) | (rw [wrap_i64] <;> (try simp only [Int.natCast_add]) <;> omega) | (simp [*]; done))⟩))))
    · intro i hi
      clear hav0 hll w0
      by_cases hlt : 2 * i + 1 < l.length
      · obtain ⟨j, hj⟩ : ∃ j : Nat, j = l.length - 1 - i := ⟨_, rfl⟩
        have hji : (l.length : Int) - 1 - i = (j : Int) := by omega
        have hlt' : (i : Int) < (j : Int) := by omega
        have hst := revM_step l i hlt
        rw [← hj] at hst
        have hMl := revM_len l i
        have hil : i < (revM l i).length := by omega
        have hjl : j < (revM l i).length := by omega
        generalize revM l i = M at *
        have hpl := pts_len M
        have hati := pts_at M i hil
        have hatj := pts_at M j hjl
        have hzi : ((M.getD i zeroPt).cells).length = 2 := rfl
        have hzj : ((M.getD j zeroPt).cells).length = 2 := rfl
        have hjs : j ≠ i := by omega
        generalize M.getD i zeroPt = p at *
        generalize M.getD j zeroPt = q at *
        have e1 : (((pts M).set i [.v (.int .i64 q.x), .v (.int .i64 q.y)]).set j [.v (.int .i64 p.x), .v (.int .i64 p.y)]) = pts (revM l (i + 1)) := by rw [pts_set, pts_set, hst]
        have e2 : (((pts M).set i [.v (.int .i64 q.x), .v (.int .i64 q.y)]).getD j []) = p.cells ∨ True := .inr trivial
        have e3 : ((pts M).set i [.v (.int .i64 q.x), .v (.int .i64 q.y)]).length = (pts M).length := by simp
        have w1 : IntKind.i64.wrap ((i : Int) + 1) = ((i + 1 : Nat) : Int) := by rw [wrap_i64 (by omega) (by omega)]; omega
        have w2 : IntKind.i64.wrap ((j : Int) - 1) = (l.length : Int) - 1 - ((i + 1 : Nat) : Int) := by rw [wrap_i64 (by omega) (by omega)]; omega
        have hat2 : ((pts M).set i [.v (.int .i64 q.x), .v (.int .i64 q.y)]).getD j [] = q.cells := by
          rw [List.getD_eq_getElem?_getD, List.getElem?_set_ne (by omega), ← List.getD_eq_getElem?_getD]
          exact hatj
        have hii : (i : Int) < M.length := by omega
        have hjj : (j : Int) < M.length := by omega
        rw [hji]
        clear e2 hst hj hlt
        repeat' (first
 | (apply Awp.sreg; (case hn => (simp only [List.length_cons, List.length_nil, Nat.reduceAdd] <;> rfl)))
 | (refine st_nil ?_)
 | (apply st_a; (case hc => rfl); (case he => (simp only [go_sem, *] <;> rfl)); (case hu => (simp only [updL_nil, updL_cons] <;> rfl)); (case hp => first | trivial))
 | (apply Awp.reg; (case hn => (simp only [List.length_cons, List.length_nil, Nat.reduceAdd] <;> rfl)))
 | (refine Awp.skip ?_; try simp only [go_sem, *])
 | refine Awp.block ?_
 | (apply Awp.cond; (case hc => (simp only [go_sem, *] <;> rfl)); all_goals (intro hg; (try simp only [Bool.not_true, Bool.not_false, reduceCtorEq] at hg)))
 | refine Awp.seq ?_
 | (refine Awp.draw ?_)
 | (apply sl_a; (case hc => rfl); (case he => (simp only [go_sem, *] <;> rfl)); (case hu => (simp only [updL_nil, updL_cons] <;> rfl)); (case hl => (simp only [List.map_cons, List.map_nil] <;> rfl)); (case hp => first | trivial | omega | (simp; omega)))
 | (refine sl_nil (And.intro (by first | exact drawOk_of (by decide +kernel) | (simp only [List.map_cons, List.map_nil]; exact drawOk_of (by decide +kernel)) | decide) ?_)))
        all_goals (refine ⟨i + 1, by omega, by omega, ?_⟩; (apply Ghost.mkB []; (case hnb => rfl); (case hbx => omega); (case hinj => rfl); (case hV => (simp only [go_sem, *]) <;> (repeat' (first | exact .own rfl (by decide)))); (case hB => (simp only [go_sem, *]) <;> (repeat' (first | exact ⟨_, rfl, .rowE (by first | rfl | exact e1 | omega | (simp; done) | (rw [wrap_i64] <;> (try simp only [Int.natCast_add]) <;> omega) | (simp [*]; done))⟩)))))
      · have hlt' : ¬ (i : Int) < (l.length : Int) - 1 - i := by omega
        rw [revM_end l i (by omega) hi]
        clear hlt
        repeat' (first
 | (apply Awp.sreg; (case hn => (simp only [List.length_cons, List.length_nil, Nat.reduceAdd] <;> rfl)))
 | (refine st_nil ?_)
 | (apply st_a; (case hc => rfl); (case he => (simp only [go_sem, *] <;> rfl)); (case hu => (simp only [updL_nil, updL_cons] <;> rfl)); (case hp => first | trivial))
 | (refine Awp.exit ?_; try simp only [go_sem, *])
 | (apply Awp.cond; (case hc => (simp only [go_sem, *] <;> rfl)); all_goals (intro hg; (try simp only [Bool.not_true, Bool.not_false, reduceCtorEq] at hg)))
 | refine Awp.seq ?_)
        all_goals (
          have hr : rn nm 1 0 = 0 := by unfold rn; rw [if_neg (by omega)]
          refine ⟨1, Nat.le_refl _, .tup rfl (fun j hj => by simp at hj), fun k b' hk => ?_⟩
          by_cases h2 : k = 0
          · subst h2
            have e1 : b' = .row (pts l.reverse) 2 52 := by simpa [upd] using hk.symm
            subst e1
            rw [hr]
            exact ⟨_, rfl, .row rfl⟩
          · simp [upd, updL, listH, h2] at hk)
theorem rcontours_ok (s : Sh) (hl : s.holes.length < 1000000) : Pure Tryz.prog 59 [s.av] (.sl (pps (s.out :: s.holes))) := by
  have e : pps (s.out :: s.holes) = [[.sl (pts s.out)]] ++ pps s.holes := rfl
  have h1 := pps_one s.holes
  rw [e]
  clear e
  refine fn_pure Tryz.F59 (Nat.le_of_ble_eq_true rfl) ?_; unfold Tryz.ac59
  repeat' (first
 | (apply Awp.sreg; (case hn => (simp only [List.length_cons, List.length_nil, Nat.reduceAdd] <;> rfl)))
 | (refine st_nil ?_)
 | (apply st_a; (case hc => rfl); (case he => (simp only [go_sem, *] <;> rfl)); (case hu => (simp only [updL_nil, updL_cons] <;> rfl)); (case hp => first | trivial | (simp; done) | ((repeat' (refine And.intro ?_ ?_)) <;> first | trivial | assumption | omega | (simp; done) | (simp; omega) | (simp [*]; done))))
 | (refine Awp.ret ?_; try simp only [go_sem, *]))
  all_goals repeat' (first | exact Lower.ownE (by simp only [go_sem, *] <;> rfl) (by first | rfl | (simp only [true_and, Bool.true_and, Bool.false_and, Bool.and_true, Bool.and_false, Bool.true_or, Bool.false_or, reduceIte, Bool.false_eq_true, *]; done) | (simp only [true_and, reduceIte, Bool.false_eq_true, *] <;> rfl) | (simp [true_and]; done) | (simp_all [true_and]; done) | omega))
theorem rfar_ok (p : Pt) : Pure Tryz.prog 60 [p.av] (.v (.bool (farB p))) := by
  unfold farB
  refine fn_pure Tryz.F60 (Nat.le_of_ble_eq_true rfl) ?_; unfold Tryz.ac60
  repeat' (first
 | (apply Awp.sreg; (case hn => (simp only [List.length_cons, List.length_nil, Nat.reduceAdd] <;> rfl)))
 | (refine st_nil ?_)
 | (apply st_a; (case hc => rfl); (case he => (simp only [go_sem, *] <;> rfl)); (case hu => (simp only [updL_nil, updL_cons] <;> rfl)); (case hp => first | trivial))
 | (apply st_m; (case hc => rfl); (case hg => (simp only [go_sem, *] <;> rfl)); (case he => (intro hQz; (try simp only [wantB_t, wantB_f, Bool.and_eq_true, Bool.not_eq_true', Bool.not_true, Bool.not_false, and_true, true_and] at hQz); simp only [go_sem, *] <;> rfl)); (case hp => (intro hQz; (try simp only [wantB_t, wantB_f, Bool.and_eq_true, Bool.not_eq_true', Bool.or_eq_false_iff, decide_eq_true_eq, decide_eq_false_iff_not, beq_iff_eq, beq_eq_false_iff_ne, bne_iff_ne, bne_eq_false_iff_eq, Int.not_lt, Int.not_le, Int.ofNat_lt, Int.ofNat_le] at hQz); first | trivial)))
 | (refine Awp.ret ?_; try simp only [go_sem, *]))
  all_goals repeat' (first | exact Lower.bool (by first | rfl | (simp only [true_and, Bool.true_and, Bool.false_and, Bool.and_true, Bool.and_false, Bool.true_or, Bool.false_or, reduceIte, Bool.false_eq_true, *]; done) | (simp only [true_and, reduceIte, Bool.false_eq_true, *] <;> rfl) | (simp [true_and]; done) | (simp_all [true_and]; done) | omega))
theorem rpoint_ok (p : Pt) (s : Spt) (hp : farB p = false) (ht : 0 ≤ s.turn ∧ s.turn ≤ 3) (ha : farB ⟨s.x, s.y⟩ = false) : Pure Tryz.prog 81 [p.av, s.av] (movP s p).av := by
  have ha := far_no ha
  simp only [] at ha
  have hfp := far_no hp
  obtain ⟨q, hq⟩ : ∃ q, flipP s.flip p = q := ⟨_, rfl⟩
  have hm : movP s p = ⟨(rotN s.turn.toNat q).x + s.x, (rotN s.turn.toNat q).y + s.y⟩ := by rw [← hq]; rfl
  have hbn := flip_bnd s.flip p hfp
  rw [hq] at hbn
  have hrn := rot_bnd q hbn
  have w0 : IntKind.i64.wrap (0 - p.x) = -p.x := by rw [wrap_i64 (by omega) (by omega)]; omega
  rw [hm]
  clear hm
  cases hfl : s.flip
  · rw [hfl] at hq
    have hq : p = q := hq
    refine fn_pure Tryz.F81 (Nat.le_of_ble_eq_true rfl) ?_; unfold Tryz.ac81

    repeat' (first
 | (apply Awp.sreg; (case hn => (simp only [List.length_cons, List.length_nil, Nat.reduceAdd] <;> rfl)))
 | (refine st_nil ?_)
 | (apply st_a; (case hc => rfl); (case he => (simp only [go_sem, *] <;> rfl)); (case hu => (simp only [updL_nil, updL_cons] <;> rfl)); (case hp => first | trivial))
 | (refine Awp.skip ?_; try simp only [go_sem, *])
 | refine Awp.block ?_
 | (apply Awp.cond; (case hc => (simp only [go_sem, *] <;> rfl)); all_goals (intro hg; (try simp only [Bool.not_true, Bool.not_false, reduceCtorEq] at hg)))
 | refine Awp.seq ?_)
    refine Awp.loop (fun k : Nat => k ≤ s.turn.toNat) 60 (fun k => mkS [(2, .bp 0 0), (3, .bp 1 0), (4, .bp 2 0), (5, .v (.int .i64 k))] [(0, .box (rotN k q).cells), (1, .box s.cells), (2, .box [.v (.int .i64 0), .v (.int .i64 0)])]) (fun k => s.turn.toNat - k) 0 (by omega) ?_ ?_
    · have e1 : rotN 0 q = q := rfl
      rw [e1, ← hq]
      clear hq hbn hrn
      (apply Ghost.mk [(0, 0), (1, 1), (2, 2)] []; (case hdead => rfl); (case hinj => rfl); (case hV => (simp only [go_sem, *]) <;> (repeat' (first | refine And.intro ?_ ?_ | exact View.int (by first | rfl | omega | (simp; done) | (rw [wrap_i64] <;> (try simp only [Int.natCast_add]) <;> omega) | (simp [*]; done)) | exact .bp rfl (by decide)))); (case hB => (simp only [go_sem, *]) <;> (repeat' (first | refine And.intro ?_ ?_ | exact ⟨_, rfl, BView.boxF rfl⟩))))
    · intro k hk
      by_cases hlk : k < s.turn.toNat
      · have hlk' : (k : Int) < s.turn := by omega
        have hb := hrn k
        have hs2 : rotN (k + 1) q = ⟨-(rotN k q).y, (rotN k q).x⟩ := rfl
        have w1 : IntKind.i64.wrap (0 - (rotN k q).y) = -(rotN k q).y := by rw [wrap_i64 (by omega) (by omega)]; omega
        clear hq hbn hrn
        generalize rotN k q = r at *
        repeat' (first
 | (apply Awp.sreg; (case hn => (simp only [List.length_cons, List.length_nil, Nat.reduceAdd] <;> rfl)))
 | (refine st_nil ?_)
 | (apply st_a; (case hc => rfl); (case he => (simp only [go_sem, *] <;> rfl)); (case hu => (simp only [updL_nil, updL_cons] <;> rfl)); (case hp => first | trivial))
 | (apply Awp.reg; (case hn => (simp only [List.length_cons, List.length_nil, Nat.reduceAdd] <;> rfl)))
 | (refine Awp.skip ?_; try simp only [go_sem, *])
 | refine Awp.block ?_
 | (apply Awp.cond; (case hc => (simp only [go_sem, *] <;> rfl)); all_goals (intro hg; (try simp only [Bool.not_true, Bool.not_false, reduceCtorEq] at hg)))
 | refine Awp.seq ?_)
        all_goals (refine ⟨k + 1, by omega, by omega, ?_⟩; rw [hs2]; clear hs2; (apply Ghost.mk [(0, 0), (1, 1), (2, 2)] []; (case hdead => rfl); (case hinj => rfl); (case hV => (simp only [go_sem, *]) <;> (repeat' (first | refine And.intro ?_ ?_ | exact View.int (by first | rfl | omega | (simp; done) | (rw [wrap_i64] <;> (try simp only [Int.natCast_add]) <;> omega) | (simp [*]; done)) | exact .bp rfl (by decide)))); (case hB => (simp only [go_sem, *]) <;> (repeat' (first | refine And.intro ?_ ?_ | exact ⟨_, rfl, BView.boxF rfl⟩)))))
      · have hlk' : ¬ (k : Int) < s.turn := by omega
        have e1 : k = s.turn.toNat := by omega
        rw [e1]
        rw [e1] at hlk'
        have hb := hrn s.turn.toNat
        have w1 : IntKind.i64.wrap ((rotN s.turn.toNat q).x + s.x) = (rotN s.turn.toNat q).x + s.x := wrap_i64 (by omega) (by omega)
        have w2 : IntKind.i64.wrap ((rotN s.turn.toNat q).y + s.y) = (rotN s.turn.toNat q).y + s.y := wrap_i64 (by omega) (by omega)
        clear hq hbn hrn e1 hk hlk hb
        generalize rotN s.turn.toNat q = r at *
        repeat' (first
 | (apply Awp.sreg; (case hn => (simp only [List.length_cons, List.length_nil, Nat.reduceAdd] <;> rfl)))
 | (refine st_nil ?_)
 | (apply st_a; (case hc => rfl); (case he => (simp only [go_sem, *] <;> rfl)); (case hu => (simp only [updL_nil, updL_cons] <;> rfl)); (case hp => first | trivial))
 | (refine Awp.ret ?_; try simp only [go_sem, *])
 | (refine Awp.exit ?_; try simp only [go_sem, *])
 | (apply Awp.cond; (case hc => (simp only [go_sem, *] <;> rfl)); all_goals (intro hg; (try simp only [Bool.not_true, Bool.not_false, reduceCtorEq] at hg)))
 | refine Awp.seq ?_)
        all_goals repeat' (first | exact Lower.int (by first | rfl | (simp only [true_and, Bool.true_and, Bool.false_and, Bool.and_true, Bool.and_false, Bool.true_or, Bool.false_or, reduceIte, Bool.false_eq_true, *]; done) | (simp only [true_and, reduceIte, Bool.false_eq_true, *] <;> rfl) | (simp [true_and]; done) | (simp_all [true_and]; done) | omega) | refine Lower.aggF ?_ | refine All2.cons ?_ ?_ | exact All2.nil)

  · rw [hfl] at hq
    have hq : (⟨-p.x, p.y⟩ : Pt) = q := hq
    refine fn_pure Tryz.F81 (Nat.le_of_ble_eq_true rfl) ?_; unfold Tryz.ac81

    repeat' (first
 | (apply Awp.sreg; (case hn => (simp only [List.length_cons, List.length_nil, Nat.reduceAdd] <;> rfl)))
 | (refine st_nil ?_)
 | (apply st_a; (case hc => rfl); (case he => (simp only [go_sem, *] <;> rfl)); (case hu => (simp only [updL_nil, updL_cons] <;> rfl)); (case hp => first | trivial))
 | (apply Awp.reg; (case hn => (simp only [List.length_cons, List.length_nil, Nat.reduceAdd] <;> rfl)))
 | refine Awp.block ?_
 | (apply Awp.cond; (case hc => (simp only [go_sem, *] <;> rfl)); all_goals (intro hg; (try simp only [Bool.not_true, Bool.not_false, reduceCtorEq] at hg)))
 | refine Awp.seq ?_)
    refine Awp.loop (fun k : Nat => k ≤ s.turn.toNat) 60 (fun k => mkS [(2, .bp 0 0), (3, .bp 1 0), (4, .bp 2 0), (5, .v (.int .i64 k))] [(0, .box (rotN k q).cells), (1, .box s.cells), (2, .box [.v (.int .i64 0), .v (.int .i64 0)])]) (fun k => s.turn.toNat - k) 0 (by omega) ?_ ?_
    · have e1 : rotN 0 q = q := rfl
      rw [e1, ← hq]
      clear hq hbn hrn
      (apply Ghost.mk [(0, 0), (1, 1), (2, 2)] []; (case hdead => rfl); (case hinj => rfl); (case hV => (simp only [go_sem, *]) <;> (repeat' (first | refine And.intro ?_ ?_ | exact View.int (by first | rfl | omega | (simp; done) | (rw [wrap_i64] <;> (try simp only [Int.natCast_add]) <;> omega) | (simp [*]; done)) | exact .bp rfl (by decide)))); (case hB => (simp only [go_sem, *]) <;> (repeat' (first | refine And.intro ?_ ?_ | exact ⟨_, rfl, BView.boxF rfl⟩))))
    · intro k hk
      by_cases hlk : k < s.turn.toNat
      · have hlk' : (k : Int) < s.turn := by omega
        have hb := hrn k
        have hs2 : rotN (k + 1) q = ⟨-(rotN k q).y, (rotN k q).x⟩ := rfl
        have w1 : IntKind.i64.wrap (0 - (rotN k q).y) = -(rotN k q).y := by rw [wrap_i64 (by omega) (by omega)]; omega
        clear hq hbn hrn
        generalize rotN k q = r at *
        repeat' (first
 | (apply Awp.sreg; (case hn => (simp only [List.length_cons, List.length_nil, Nat.reduceAdd] <;> rfl)))
 | (refine st_nil ?_)
 | (apply st_a; (case hc => rfl); (case he => (simp only [go_sem, *] <;> rfl)); (case hu => (simp only [updL_nil, updL_cons] <;> rfl)); (case hp => first | trivial))
 | (apply Awp.reg; (case hn => (simp only [List.length_cons, List.length_nil, Nat.reduceAdd] <;> rfl)))
 | (refine Awp.skip ?_; try simp only [go_sem, *])
 | refine Awp.block ?_
 | (apply Awp.cond; (case hc => (simp only [go_sem, *] <;> rfl)); all_goals (intro hg; (try simp only [Bool.not_true, Bool.not_false, reduceCtorEq] at hg)))
 | refine Awp.seq ?_)
        all_goals (refine ⟨k + 1, by omega, by omega, ?_⟩; rw [hs2]; clear hs2; (apply Ghost.mk [(0, 0), (1, 1), (2, 2)] []; (case hdead => rfl); (case hinj => rfl); (case hV => (simp only [go_sem, *]) <;> (repeat' (first | refine And.intro ?_ ?_ | exact View.int (by first | rfl | omega | (simp; done) | (rw [wrap_i64] <;> (try simp only [Int.natCast_add]) <;> omega) | (simp [*]; done)) | exact .bp rfl (by decide)))); (case hB => (simp only [go_sem, *]) <;> (repeat' (first | refine And.intro ?_ ?_ | exact ⟨_, rfl, BView.boxF rfl⟩)))))
      · have hlk' : ¬ (k : Int) < s.turn := by omega
        have e1 : k = s.turn.toNat := by omega
        rw [e1]
        rw [e1] at hlk'
        have hb := hrn s.turn.toNat
        have w1 : IntKind.i64.wrap ((rotN s.turn.toNat q).x + s.x) = (rotN s.turn.toNat q).x + s.x := wrap_i64 (by omega) (by omega)
        have w2 : IntKind.i64.wrap ((rotN s.turn.toNat q).y + s.y) = (rotN s.turn.toNat q).y + s.y := wrap_i64 (by omega) (by omega)
        clear hq hbn hrn e1 hk hlk hb
        generalize rotN s.turn.toNat q = r at *
        repeat' (first
 | (apply Awp.sreg; (case hn => (simp only [List.length_cons, List.length_nil, Nat.reduceAdd] <;> rfl)))
 | (refine st_nil ?_)
 | (apply st_a; (case hc => rfl); (case he => (simp only [go_sem, *] <;> rfl)); (case hu => (simp only [updL_nil, updL_cons] <;> rfl)); (case hp => first | trivial))
 | (refine Awp.ret ?_; try simp only [go_sem, *])
 | (refine Awp.exit ?_; try simp only [go_sem, *])
 | (apply Awp.cond; (case hc => (simp only [go_sem, *] <;> rfl)); all_goals (intro hg; (try simp only [Bool.not_true, Bool.not_false, reduceCtorEq] at hg)))
 | refine Awp.seq ?_)
        all_goals repeat' (first | exact Lower.int (by first | rfl | (simp only [true_and, Bool.true_and, Bool.false_and, Bool.and_true, Bool.and_false, Bool.true_or, Bool.false_or, reduceIte, Bool.false_eq_true, *]; done) | (simp only [true_and, reduceIte, Bool.false_eq_true, *] <;> rfl) | (simp [true_and]; done) | (simp_all [true_and]; done) | omega) | refine Lower.aggF ?_ | refine All2.cons ?_ ?_ | exact All2.nil)

theorem movC_step (s : Spt) (c : List Pt) (i : Nat) (h : i < c.length) : (movC s c).take (i + 1) = (movC s c).take i ++ [movP s (c.getD (if s.flip = true then c.length - 1 - i else i) zeroPt)] := by
  have hl : (movC s c).length = c.length := by unfold movC; split <;> simp
  rw [take_snoc _ zeroPt i (by omega)]
  congr 2
  unfold movC
  cases hf : s.flip
  · rw [if_neg (by decide), if_neg (by decide)]
    simp [List.getD_eq_getElem?_getD, h]
  · rw [if_pos rfl, if_pos rfl, rev_at _ _ (by simpa using h)]
    simp [List.getD_eq_getElem?_getD, show c.length - 1 - i < c.length by omega]
theorem movC_len (s : Spt) (c : List Pt) : (movC s c).length = c.length := by unfold movC; split <;> simp
theorem rcontour_ok (c : List Pt) (s : Spt) (hc : ∀ p ∈ c, farB p = false) (ht : 0 ≤ s.turn ∧ s.turn ≤ 3) (ha : farB ⟨s.x, s.y⟩ = false) (hl : c.length < 1000000) : Pure Tryz.prog 61 [.sl (pts c), s.av] (.sl (pts (movC s c))) := by
  have kp := fun k (h : k < c.length) => rpoint_ok (c.getD k zeroPt) s (hc _ (getD_in c zeroPt k h)) ht ha
  have hst := fun i h => movC_step s c i h
  have hln := movC_len s c
  clear hc ht ha
  generalize movC s c = M at *
  cases hfl : s.flip
  all_goals (
    rw [hfl] at hst
    refine fn_pure Tryz.F61 (Nat.le_of_ble_eq_true rfl) ?_; unfold Tryz.ac61
    repeat' (first
 | (apply Awp.sreg; (case hn => (simp only [List.length_cons, List.length_nil, Nat.reduceAdd] <;> rfl)))
 | (refine st_nil ?_)
 | (apply st_a; (case hc => rfl); (case he => (simp only [go_sem, *] <;> rfl)); (case hu => (simp only [updL_nil, updL_cons] <;> rfl)); (case hp => first | trivial))
 | refine Awp.block ?_
 | refine Awp.seq ?_)
    refine Awp.loop (fun i : Nat => i ≤ c.length) 60 (fun i => mkS [(0, .sl (pts c)), (3, .bp 0 0), (5, .own 1), (6, .v (.int .i64 i))] [(0, .box s.cells), (1, .row (pts (M.take i)) 2 52)]) (fun i => c.length - i) 0 (by omega) ?_ ?_
    · refine Ghost.trans (Ghost.name 5 2 52 rfl (by decide)) ?_
      have e1 : pts (M.take 0) = [] := rfl
      rw [e1]
      clear kp hst
      (apply Ghost.mk [(0, 0), (1, 4)] []; (case hdead => rfl); (case hinj => rfl); (case hV => (simp only [go_sem, *]) <;> (repeat' (first | refine And.intro ?_ ?_ | exact View.int (by first | rfl | omega | (simp; done) | (rw [wrap_i64] <;> (try simp only [Int.natCast_add]) <;> omega) | (simp [*]; done)) | exact .bp rfl (by decide) | exact .own rfl (by decide)))); (case hB => (simp only [go_sem, *]) <;> (repeat' (first | refine And.intro ?_ ?_ | exact ⟨_, rfl, BView.boxF rfl⟩ | exact ⟨_, rfl, .rowE (by first | rfl | omega | (simp; done) | (rw [wrap_i64] <;> (try simp only [Int.natCast_add]) <;> omega) | (simp [*]; done))⟩))))
    · intro i hi
      by_cases hlt : i < c.length
      · have hlt' : (i : Int) < c.length := by omega
        have hs := hst i hlt
        obtain ⟨k, hk⟩ : ∃ k, k = c.length - 1 - i := ⟨_, rfl⟩
        rw [← hk] at hs
        have w1 : IntKind.i64.wrap ((c.length : Int) - 1) = (c.length : Int) - 1 := wrap_i64 (by omega) (by omega)
        have w2 : IntKind.i64.wrap ((c.length : Int) - 1 - i) = (k : Int) := by rw [wrap_i64 (by omega) (by omega)]; omega
        have hkl : k < c.length := by omega
        have hki : (k : Int) < c.length := by omega
        have hat := pts_at c i hlt
        have hz : ((c.getD i zeroPt).cells).length = 2 := rfl
        have hat2 := pts_at c k hkl
        have hz2 : ((c.getD k zeroPt).cells).length = 2 := rfl
        have k1 := kp i hlt
        have k2 := kp k hkl
        have hMl : (M.take i).length = i := by rw [List.length_take]; omega
        simp only [Bool.false_eq_true, if_false, if_true] at hs
        have e3 := pts_snoc (M.take i) (movP s (c.getD i zeroPt))
        have e4 := pts_snoc (M.take i) (movP s (c.getD k zeroPt))
        clear kp hst hk
        generalize movP s (c.getD i zeroPt) = m1 at *
        generalize movP s (c.getD k zeroPt) = m2 at *
        generalize c.getD i zeroPt = p1 at *
        generalize c.getD k zeroPt = p2 at *
        generalize M.take i = L at *
        repeat' (first
 | (apply Awp.sreg; (case hn => (simp only [List.length_cons, List.length_nil, Nat.reduceAdd] <;> rfl)))
 | (refine st_nil ?_)
 | (apply st_a; (case hc => rfl); (case he => (simp only [go_sem, *] <;> rfl)); (case hu => (simp only [updL_nil, updL_cons] <;> rfl)); (case hp => first | trivial))
 | (apply Awp.reg; (case hn => (simp only [List.length_cons, List.length_nil, Nat.reduceAdd] <;> rfl)))
 | (refine Awp.skip ?_; try simp only [go_sem, *])
 | refine Awp.block ?_
 | (apply Awp.cond; (case hc => (simp only [go_sem, *] <;> rfl)); all_goals (intro hg; (try simp only [Bool.not_true, Bool.not_false, reduceCtorEq] at hg)))
 | refine Awp.seq ?_
 | (refine Awp.draw ?_)
 | (apply sl_a; (case hc => rfl); (case he => (simp only [go_sem, *] <;> rfl)); (case hu => (simp only [updL_nil, updL_cons] <;> rfl)); (case hl => (simp only [List.map_cons, List.map_nil] <;> rfl)); (case hp => first | trivial | omega | (simp; done) | (simp; omega)))
 | (apply sl_c; (case hc => (simp only [go_sem, *] <;> rfl)); (case hl => (simp only [go_sem, *] <;> rfl)); (case hn => (simp only [go_sem, *] <;> rfl)); (case hp => first | exact k1 | (have hXz := k1; simp only [go_sem, *] at hXz; exact hXz)); (case hd => first | exact .inl rfl | exact .inr (.v _) | exact .inr .any | exact .inr .nils | (refine .inr ?_; (repeat' (first | exact Dry.v _ | exact Dry.any | exact Dry.nils | exact Dry.slE | refine Dry.agg ?_ | refine Dry.tup ?_ | (refine List.forall_mem_cons.2 (And.intro ?_ ?_)) | (intro cQ hQ; cases hQ; done))); done)); (case hm => first | decide | (simp; done)))
 | (apply sl_c; (case hc => (simp only [go_sem, *] <;> rfl)); (case hl => (simp only [go_sem, *] <;> rfl)); (case hn => (simp only [go_sem, *] <;> rfl)); (case hp => first | exact k2 | (have hXz := k2; simp only [go_sem, *] at hXz; exact hXz)); (case hd => first | exact .inl rfl | exact .inr (.v _) | exact .inr .any | exact .inr .nils | (refine .inr ?_; (repeat' (first | exact Dry.v _ | exact Dry.any | exact Dry.nils | exact Dry.slE | refine Dry.agg ?_ | refine Dry.tup ?_ | (refine List.forall_mem_cons.2 (And.intro ?_ ?_)) | (intro cQ hQ; cases hQ; done))); done)); (case hm => first | decide | (simp; done)))
 | (refine sl_nil (And.intro (by first | exact drawOk_of (by decide +kernel) | (simp only [List.map_cons, List.map_nil]; exact drawOk_of (by decide +kernel)) | decide) ?_)))
        all_goals (refine ⟨i + 1, by omega, by omega, ?_⟩; rw [hs]; (first | rw [← e3] | rw [← e4]); clear hs e3 e4 k1 k2; (first | ((apply Ghost.mk [(0, 0), (1, 76)] []; (case hdead => rfl); (case hinj => rfl); (case hV => (simp only [go_sem, *]) <;> (repeat' (first | refine And.intro ?_ ?_ | exact View.int (by first | rfl | omega | (simp; done) | (rw [wrap_i64] <;> (try simp only [Int.natCast_add]) <;> omega) | (simp [*]; done)) | exact .bp rfl (by decide) | exact .own rfl (by decide)))); (case hB => (simp only [go_sem, *]) <;> (repeat' (first | refine And.intro ?_ ?_ | exact ⟨_, rfl, BView.boxF rfl⟩ | exact ⟨_, rfl, .rowE (by first | rfl | omega | (simp; done) | (rw [wrap_i64] <;> (try simp only [Int.natCast_add]) <;> omega) | (simp [*]; done))⟩))))) | ((apply Ghost.mk [(0, 0), (1, 82)] []; (case hdead => rfl); (case hinj => rfl); (case hV => (simp only [go_sem, *]) <;> (repeat' (first | refine And.intro ?_ ?_ | exact View.int (by first | rfl | omega | (simp; done) | (rw [wrap_i64] <;> (try simp only [Int.natCast_add]) <;> omega) | (simp [*]; done)) | exact .bp rfl (by decide) | exact .own rfl (by decide)))); (case hB => (simp only [go_sem, *]) <;> (repeat' (first | refine And.intro ?_ ?_ | exact ⟨_, rfl, BView.boxF rfl⟩ | exact ⟨_, rfl, .rowE (by first | rfl | omega | (simp; done) | (rw [wrap_i64] <;> (try simp only [Int.natCast_add]) <;> omega) | (simp [*]; done))⟩)))))))
      · have hlt' : ¬ (i : Int) < c.length := by omega
        have e1 : M.take i = M := List.take_of_length_le (by omega)
        rw [e1]
        clear e1 kp hst
        repeat' (first
 | (apply Awp.sreg; (case hn => (simp only [List.length_cons, List.length_nil, Nat.reduceAdd] <;> rfl)))
 | (refine st_nil ?_)
 | (apply st_a; (case hc => rfl); (case he => (simp only [go_sem, *] <;> rfl)); (case hu => (simp only [updL_nil, updL_cons] <;> rfl)); (case hp => first | trivial))
 | (refine Awp.ret ?_; try simp only [go_sem, *])
 | (refine Awp.exit ?_; try simp only [go_sem, *])
 | (apply Awp.cond; (case hc => (simp only [go_sem, *] <;> rfl)); all_goals (intro hg; (try simp only [Bool.not_true, Bool.not_false, reduceCtorEq] at hg)))
 | refine Awp.seq ?_)
        all_goals repeat' (first | exact Lower.ownE (by simp only [go_sem, *] <;> rfl) (by first | rfl | (simp only [true_and, Bool.true_and, Bool.false_and, Bool.and_true, Bool.and_false, Bool.true_or, Bool.false_or, reduceIte, Bool.false_eq_true, *]; done) | (simp only [true_and, reduceIte, Bool.false_eq_true, *] <;> rfl) | (simp [true_and]; done) | (simp_all [true_and]; done) | omega)))
end Go.Proofs
end
section
set_option linter.unusedVariables false
set_option linter.unusedSimpArgs false
namespace Go.Proofs
open Go Go.Ab
set_option maxHeartbeats 8000000
set_option maxRecDepth 100000
attribute [local irreducible] Awp aops aopsL Go.Ab.Pure PureOwn
theorem foldl_tk {α β : Type} (f : β → α → β) (b : β) (l : List α) (d : α) (i : Nat) (h : i < l.length) : (l.take (i + 1)).foldl f b = f ((l.take i).foldl f b) (l.getD i d) := by
  rw [take_snoc l d i h, List.foldl_append]; rfl
theorem xs_step (len g : Int) (l : List Rc) (i : Nat) (h : i < l.length) : xsE len g (l.take (i + 1)) = putE (putE (xsE len g (l.take i)) ((l.getD i zeroRc).a - g) len) ((l.getD i zeroRc).c + g) len := foldl_tk _ _ _ _ _ h
theorem ys_step (wid g : Int) (l : List Rc) (i : Nat) (h : i < l.length) : ysE wid g (l.take (i + 1)) = putE (putE (ysE wid g (l.take i)) ((l.getD i zeroRc).b - g) wid) ((l.getD i zeroRc).d + g) wid := foldl_tk _ _ _ _ _ h
theorem xs_in {len g : Int} {l : List Rc} (h : 0 < len) {i : Nat} (hi : i < (xsE len g l).length) : 0 ≤ (xsE len g l).getD i 0 ∧ (xsE len g l).getD i 0 ≤ len := by
  rcases ((xs_spec len g l h).2.2 _).1 (getD_in _ 0 i hi) with k | ⟨_, _, _, k⟩
  · simp only [List.mem_cons, List.not_mem_nil, or_false] at k
    omega
  · exact k
theorem ys_in {len g : Int} {l : List Rc} (h : 0 < len) {i : Nat} (hi : i < (ysE len g l).length) : 0 ≤ (ysE len g l).getD i 0 ∧ (ysE len g l).getD i 0 ≤ len := by
  rcases ((ys_spec len g l h).2.2 _).1 (getD_in _ 0 i hi) with k | ⟨_, _, _, k⟩
  · simp only [List.mem_cons, List.not_mem_nil, or_false] at k
    omega
  · exact k
theorem rfrees_ok (len wid : Int) (l : List Rc) (g : Int) (h6 : rightB len wid l g = true → l.length ≤ 6) : Pure Tryz.prog 37 [.v (.int .i64 len), .v (.int .i64 wid), .sl (rcs l), .v (.int .i64 g)] (.sl (rcs (freesE len wid l g))) := by
  have k1 := rright_ok len wid l g
  unfold freesE
  cases hR : rightB len wid l g
  case false =>
    rw [hR] at k1
    rw [if_neg (by decide)]
    refine fn_pure Tryz.F37 (Nat.le_of_ble_eq_true rfl) ?_; unfold Tryz.ac37
    repeat' (first
 | (apply Awp.sreg; (case hn => (simp only [List.length_cons, List.length_nil, Nat.reduceAdd] <;> rfl)))
 | (refine st_nil ?_)
 | (apply st_a; (case hc => rfl); (case he => (simp only [go_sem, *] <;> rfl)); (case hu => (simp only [updL_nil, updL_cons] <;> rfl)); (case hp => first | trivial))
 | (apply st_c; (case hc => (simp only [go_sem, *] <;> rfl)); (case hl => (simp only [go_sem, *] <;> rfl)); (case hn => (simp only [go_sem, *] <;> rfl)); (case hp => first | exact k1 | (have hXz := k1; simp only [go_sem, *] at hXz; exact hXz)))
 | (refine Awp.ret ?_; try simp only [go_sem, *])
 | (apply Awp.cond; (case hc => (simp only [go_sem, *] <;> rfl)); all_goals (intro hg; (try simp only [Bool.not_true, Bool.not_false, reduceCtorEq] at hg)))
 | refine Awp.seq ?_)
    all_goals repeat' (first | exact Lower.nilE (by first | rfl | (simp only [true_and, Bool.true_and, Bool.false_and, Bool.and_true, Bool.and_false, Bool.true_or, Bool.false_or, reduceIte, Bool.false_eq_true, *]; done) | (simp only [true_and, reduceIte, Bool.false_eq_true, *] <;> rfl) | (simp [true_and]; done) | (simp_all [true_and]; done) | omega))
  have h6 := h6 hR
  rw [hR] at k1
  rw [if_pos rfl]
  obtain ⟨hT, hlen, hwid⟩ := good_of hR
  have hxs := fun i => xs_spec len g (l.take i) (show 0 < len by omega)
  have hys := fun i => ys_spec wid g (l.take i) (show 0 < wid by omega)
  have hXa := (xs_spec len g l (show 0 < len by omega)).2.1
  have hYa := (ys_spec wid g l (show 0 < wid by omega)).2.1
  have hXi := fun i h => xs_in (g := g) (l := l) (i := i) (show 0 < len by omega) h
  have hYi := fun i h => ys_in (g := g) (l := l) (i := i) (show 0 < wid by omega) h
  have kf := fun x => rfree_ok len wid l g x hT
  have kg := fun x => grows_ok len wid l g x hT
  have hM : ∀ x, maxB len wid l g x = (freeR len wid l g x && !growsR len wid l g x) := fun _ => rfl
  unfold maxL
  generalize maxB len wid l g = P at *
  generalize freeR len wid l g = F at *
  generalize growsR len wid l g = G at *
  have hTok := hT.ok
  have hg := hT.g
  clear hR hT
  refine fn_pure Tryz.F37 (Nat.le_of_ble_eq_true rfl) ?_; unfold Tryz.ac37
  repeat' (first
 | (apply Awp.sreg; (case hn => (simp only [List.length_cons, List.length_nil, Nat.reduceAdd] <;> rfl)))
 | (refine st_nil ?_)
 | (apply st_a; (case hc => rfl); (case he => (simp only [go_sem, *] <;> rfl)); (case hu => (simp only [updL_nil, updL_cons] <;> rfl)); (case hp => first | trivial | (simp; done)))
 | (apply st_c; (case hc => (simp only [go_sem, *] <;> rfl)); (case hl => (simp only [go_sem, *] <;> rfl)); (case hn => (simp only [go_sem, *] <;> rfl)); (case hp => first | exact k1 | (have hXz := k1; simp only [go_sem, *] at hXz; exact hXz)))
 | (refine Awp.skip ?_; try simp only [go_sem, *])
 | refine Awp.block ?_
 | (apply Awp.cond; (case hc => (simp only [go_sem, *] <;> rfl)); all_goals (intro hg; (try simp only [Bool.not_true, Bool.not_false, reduceCtorEq] at hg)))
 | refine Awp.seq ?_)
  clear k1
  refine Awp.loop (fun i : Nat => i ≤ l.length) 60 (fun i => mkS [(0, .v (.int .i64 len)), (1, .v (.int .i64 wid)), (2, .sl (rcs l)), (3, .v (.int .i64 g)), (9, .sl (ints (xsE len g (l.take i)))), (10, .sl (ints (ysE wid g (l.take i)))), (11, .v (.int .i64 i))] []) (fun i => l.length - i) 0 (by omega) ?_ ?_
  · have e1 : ints (xsE len g (l.take 0)) = [[.v (.int .i64 0)], [.v (.int .i64 len)]] := rfl
    have e2 : ints (ysE wid g (l.take 0)) = [[.v (.int .i64 0)], [.v (.int .i64 wid)]] := rfl
    rw [e1, e2]
    clear hxs hys hXi hYi kf kg hM hTok e1 e2
    (apply Ghost.mk [] [8, 10]; (case hdead => rfl); (case hinj => rfl); (case hV => (simp only [go_sem, *]) <;> (repeat' (first | refine And.intro ?_ ?_ | exact View.int (by first | rfl | omega | (simp; done) | (rw [wrap_i64] <;> (try simp only [Int.natCast_add]) <;> omega) | (simp [*]; done)) | exact View.low (Lower.ownE (by first | rfl | (simp only [go_sem, *] <;> rfl)) (by first | rfl | omega | (simp; done) | (rw [wrap_i64] <;> (try simp only [Int.natCast_add]) <;> omega) | (simp [*]; done)))))); (case hB => (simp only [go_sem, *]) <;> (repeat' (first | skip; done))))
  · intro i hi
    by_cases hlt : i < l.length
    · have hlt' : (i : Int) < l.length := by omega
      have hat := rcs_at l i hlt
      have hz : ((l.getD i zeroRc).cells).length = 4 := rfl
      have hB := bad_no (hTok i hlt)
      have hsx := xs_step len g l i hlt
      have hsy := ys_step wid g l i hlt
      have hx1 := (hxs i).1
      have hy1 := (hys i).1
      have hx2 := (hxs i).2.1
      have hy2 := (hys i).2.1
      rw [List.length_take_of_le hi] at hx2 hy2
      clear hxs hys hXi hYi kf kg hM hTok
      generalize xsE len g (l.take i) = X at *
      generalize ysE wid g (l.take i) = Y at *
      generalize l.getD i zeroRc = t at *
      have w1 : IntKind.i64.wrap (t.a - g) = t.a - g := wrap_i64 (by omega) (by omega)
      have w2 : IntKind.i64.wrap (t.b - g) = t.b - g := wrap_i64 (by omega) (by omega)
      have w3 : IntKind.i64.wrap (t.c + g) = t.c + g := wrap_i64 (by omega) (by omega)
      have w4 : IntKind.i64.wrap (t.d + g) = t.d + g := wrap_i64 (by omega) (by omega)
      have q1 := put_lenQ (t.a - g) len X hx1
      have q2 := put_lenQ (t.b - g) wid Y hy1
      have p1 := put_ok X (t.a - g) len (by omega)
      have p2 := put_ok (putE X (t.a - g) len) (t.c + g) len (by omega)
      have p3 := put_ok Y (t.b - g) wid (by omega)
      have p4 := put_ok (putE Y (t.b - g) wid) (t.d + g) wid (by omega)
      clear hB hx1 hy1 hx2 hy2 q1 q2
      generalize putE (putE X (t.a - g) len) (t.c + g) len = X2 at *
      generalize putE (putE Y (t.b - g) wid) (t.d + g) wid = Y2 at *
      generalize putE X (t.a - g) len = X1 at *
      generalize putE Y (t.b - g) wid = Y1 at *
      repeat' (first
 | (apply Awp.sreg; (case hn => (simp only [List.length_cons, List.length_nil, Nat.reduceAdd] <;> rfl)))
 | (apply Awp.sdraw; (case hn => (simp only [List.length_cons, List.length_nil, Nat.reduceAdd] <;> rfl)))
 | (refine st_nil ?_)
 | (apply st_a; (case hc => rfl); (case he => (simp only [go_sem, *] <;> rfl)); (case hu => (simp only [updL_nil, updL_cons] <;> rfl)); (case hp => first | trivial))
 | (apply Awp.reg; (case hn => (simp only [List.length_cons, List.length_nil, Nat.reduceAdd] <;> rfl)))
 | (refine Awp.skip ?_; try simp only [go_sem, *])
 | refine Awp.block ?_
 | (apply Awp.cond; (case hc => (simp only [go_sem, *] <;> rfl)); all_goals (intro hg; (try simp only [Bool.not_true, Bool.not_false, reduceCtorEq] at hg)))
 | refine Awp.seq ?_
 | (refine Awp.draw ?_)
 | (apply sl_a; (case hc => rfl); (case he => (simp only [go_sem, *] <;> rfl)); (case hu => (simp only [updL_nil, updL_cons] <;> rfl)); (case hl => (simp only [List.map_cons, List.map_nil] <;> rfl)); (case hp => first | trivial | omega))
 | (apply sl_c; (case hc => (simp only [go_sem, *] <;> rfl)); (case hl => (simp only [go_sem, *] <;> rfl)); (case hn => (simp only [go_sem, *] <;> rfl)); (case hp => first | exact p1 | (have hXz := p1; simp only [go_sem, *] at hXz; exact hXz)); (case hd => first | exact .inl rfl | exact .inr (.v _) | exact .inr .any | exact .inr .nils | (refine .inr ?_; (repeat' (first | exact Dry.v _ | exact Dry.any | exact Dry.nils | exact Dry.slE | refine Dry.agg ?_ | refine Dry.tup ?_ | (refine List.forall_mem_cons.2 (And.intro ?_ ?_)) | (intro cQ hQ; cases hQ; done))); done)); (case hm => first | decide | (simp; done)))
 | (apply sl_c; (case hc => (simp only [go_sem, *] <;> rfl)); (case hl => (simp only [go_sem, *] <;> rfl)); (case hn => (simp only [go_sem, *] <;> rfl)); (case hp => first | exact p2 | (have hXz := p2; simp only [go_sem, *] at hXz; exact hXz)); (case hd => first | exact .inl rfl | exact .inr (.v _) | exact .inr .any | exact .inr .nils | (refine .inr ?_; (repeat' (first | exact Dry.v _ | exact Dry.any | exact Dry.nils | exact Dry.slE | refine Dry.agg ?_ | refine Dry.tup ?_ | (refine List.forall_mem_cons.2 (And.intro ?_ ?_)) | (intro cQ hQ; cases hQ; done))); done)); (case hm => first | decide | (simp; done)))
 | (apply sl_c; (case hc => (simp only [go_sem, *] <;> rfl)); (case hl => (simp only [go_sem, *] <;> rfl)); (case hn => (simp only [go_sem, *] <;> rfl)); (case hp => first | exact p3 | (have hXz := p3; simp only [go_sem, *] at hXz; exact hXz)); (case hd => first | exact .inl rfl | exact .inr (.v _) | exact .inr .any | exact .inr .nils | (refine .inr ?_; (repeat' (first | exact Dry.v _ | exact Dry.any | exact Dry.nils | exact Dry.slE | refine Dry.agg ?_ | refine Dry.tup ?_ | (refine List.forall_mem_cons.2 (And.intro ?_ ?_)) | (intro cQ hQ; cases hQ; done))); done)); (case hm => first | decide | (simp; done)))
 | (apply sl_c; (case hc => (simp only [go_sem, *] <;> rfl)); (case hl => (simp only [go_sem, *] <;> rfl)); (case hn => (simp only [go_sem, *] <;> rfl)); (case hp => first | exact p4 | (have hXz := p4; simp only [go_sem, *] at hXz; exact hXz)); (case hd => first | exact .inl rfl | exact .inr (.v _) | exact .inr .any | exact .inr .nils | (refine .inr ?_; (repeat' (first | exact Dry.v _ | exact Dry.any | exact Dry.nils | exact Dry.slE | refine Dry.agg ?_ | refine Dry.tup ?_ | (refine List.forall_mem_cons.2 (And.intro ?_ ?_)) | (intro cQ hQ; cases hQ; done))); done)); (case hm => first | decide | (simp; done)))
 | (refine sl_nil (And.intro (by first | exact drawOk_of (by decide +kernel) | (simp only [List.map_cons, List.map_nil]; exact drawOk_of (by decide +kernel)) | decide) ?_)))
      all_goals (refine ⟨i + 1, by omega, by omega, ?_⟩; rw [hsx, hsy]; clear hsx hsy p1 p2 p3 p4; (apply Ghost.mk [] []; (case hdead => rfl); (case hinj => rfl); (case hV => (simp only [go_sem, *]) <;> (repeat' (first | exact View.int (by first | rfl | omega | (simp; done) | (rw [wrap_i64] <;> (try simp only [Int.natCast_add]) <;> omega) | (simp [*]; done))))); (case hB => (simp only [go_sem, *]) <;> (repeat' (first | skip; done)))))
    · have hlt' : ¬ (i : Int) < l.length := by omega
      have e1 : l.take i = l := List.take_of_length_le (by omega)
      rw [e1]
      clear e1 hlt hxs hys hTok hi
      generalize xsE len g l = X at *
      generalize ysE wid g l = Y at *
      have hX14 : X.length ≤ 14 := by omega
      have hY14 : Y.length ≤ 14 := by omega
      have b1 := r1_len P X Y
      have b2 := r2_len P X Y
      have b3 := r3_len P X Y
      have b4 := r4_len P X Y
      have z3 := r3_zero P X Y
      have z4 := r4_zero P X Y
      have hYX : Y.length * X.length ≤ 14 * 14 := Nat.mul_le_mul hY14 hX14
      have hXYX : X.length * (Y.length * X.length) ≤ 14 * (14 * 14) := Nat.mul_le_mul hX14 hYX
      repeat' (first
 | (apply Awp.sreg; (case hn => (simp only [List.length_cons, List.length_nil, Nat.reduceAdd] <;> rfl)))
 | (refine st_nil ?_)
 | (apply st_a; (case hc => rfl); (case he => (simp only [go_sem, *] <;> rfl)); (case hu => (simp only [updL_nil, updL_cons] <;> rfl)); (case hp => first | trivial))
 | (refine Awp.exit ?_; try simp only [go_sem, *])
 | refine Awp.block ?_
 | (apply Awp.cond; (case hc => (simp only [go_sem, *] <;> rfl)); all_goals (intro hg; (try simp only [Bool.not_true, Bool.not_false, reduceCtorEq] at hg)))
 | refine Awp.seq ?_)
      refine Awp.loop (fun a : Nat => a ≤ Y.length) 100 (fun a => mkS [(0, .v (.int .i64 len)), (1, .v (.int .i64 wid)), (2, .sl (rcs l)), (3, .v (.int .i64 g)), (9, .sl (ints X)), (10, .sl (ints Y)), (12, .own 0), (13, .v (.int .i64 a))] [(0, .row (rcs (r1 P X Y a)) 4 54)]) (fun a => Y.length - a) 0 (by omega) ?_ ?_
      · refine Ghost.trans (Ghost.name 12 4 54 rfl (by decide)) ?_
        have e1 : rcs (r1 P X Y 0) = [] := rfl
        rw [e1]
        clear b1 b2 b3 b4 z3 z4 hXi hYi kf kg hM
        (apply Ghost.mk [(0, 66)] []; (case hdead => rfl); (case hinj => rfl); (case hV => (simp only [go_sem, *]) <;> (repeat' (first | refine And.intro ?_ ?_ | exact View.int (by first | rfl | omega | (simp; done) | (rw [wrap_i64] <;> (try simp only [Int.natCast_add]) <;> omega) | (simp [*]; done)) | exact .own rfl (by decide)))); (case hB => (simp only [go_sem, *]) <;> (repeat' (first | exact ⟨_, rfl, .rowE (by first | rfl | omega | (simp; done) | (rw [wrap_i64] <;> (try simp only [Int.natCast_add]) <;> omega) | (simp [*]; done))⟩))))
      · intro a ha
        by_cases hla : a < Y.length
        · have hla' : (a : Int) < Y.length := by omega
          have hO1 : (r1 P X Y a).length ≤ 38416 := Nat.le_trans (b1 a) (Nat.le_trans (Nat.mul_le_mul (show a ≤ 14 by omega) hXYX) (by decide))
          have hs1 : r1 P X Y (a + 1) = r1 P X Y a ++ r2 P X Y a X.length := rfl
          generalize r1 P X Y a = O1 at *
          repeat' (first
 | (apply Awp.sreg; (case hn => (simp only [List.length_cons, List.length_nil, Nat.reduceAdd] <;> rfl)))
 | (refine st_nil ?_)
 | (apply st_a; (case hc => rfl); (case he => (simp only [go_sem, *] <;> rfl)); (case hu => (simp only [updL_nil, updL_cons] <;> rfl)); (case hp => first | trivial))
 | (refine Awp.skip ?_; try simp only [go_sem, *])
 | refine Awp.block ?_
 | (apply Awp.cond; (case hc => (simp only [go_sem, *] <;> rfl)); all_goals (intro hg; (try simp only [Bool.not_true, Bool.not_false, reduceCtorEq] at hg)))
 | refine Awp.seq ?_)
          refine Awp.loop (fun b : Nat => b ≤ X.length) 110 (fun b => mkS [(0, .v (.int .i64 len)), (1, .v (.int .i64 wid)), (2, .sl (rcs l)), (3, .v (.int .i64 g)), (9, .sl (ints X)), (10, .sl (ints Y)), (12, .own 0), (13, .v (.int .i64 a)), (14, .v (.int .i64 b))] [(0, .row (rcs (O1 ++ r2 P X Y a b)) 4 54)]) (fun b => X.length - b) 0 (by omega) ?_ ?_
          · have e1 : O1 ++ r2 P X Y a 0 = O1 := by simp [r2]
            rw [e1]
            clear b1 b2 b3 b4 z3 z4 hXi hYi kf kg hM
            (apply Ghost.mk [(0, 0)] []; (case hdead => rfl); (case hinj => rfl); (case hV => (simp only [go_sem, *]) <;> (repeat' (first | refine And.intro ?_ ?_ | exact View.int (by first | rfl | omega | (simp; done) | (rw [wrap_i64] <;> (try simp only [Int.natCast_add]) <;> omega) | (simp [*]; done)) | exact .own rfl (by decide)))); (case hB => (simp only [go_sem, *]) <;> (repeat' (first | exact ⟨_, rfl, .rowE (by first | rfl | omega | (simp; done) | (rw [wrap_i64] <;> (try simp only [Int.natCast_add]) <;> omega) | (simp [*]; done))⟩))))
          · intro b hb
            by_cases hlb : b < X.length
            · have hlb' : (b : Int) < X.length := by omega
              have hO2 : (O1 ++ r2 P X Y a b).length ≤ 42000 := by
                have := Nat.le_trans (b2 a b) (Nat.le_trans (Nat.mul_le_mul (show b ≤ 14 by omega) hYX) (by decide : _ ≤ 2744))
                rw [List.length_append]; omega
              have hs2 : O1 ++ r2 P X Y a (b + 1) = O1 ++ r2 P X Y a b ++ r3 P X Y a b Y.length := by rw [r2, List.append_assoc]
              have ww : IntKind.i64.wrap ((a : Int) + 1) = ((a + 1 : Nat) : Int) := by rw [wrap_i64 (by omega) (by omega)]; omega
              generalize O1 ++ r2 P X Y a b = O2 at *
              repeat' (first
 | (apply Awp.sreg; (case hn => (simp only [List.length_cons, List.length_nil, Nat.reduceAdd] <;> rfl)))
 | (refine st_nil ?_)
 | (apply st_a; (case hc => rfl); (case he => (simp only [go_sem, *] <;> rfl)); (case hu => (simp only [updL_nil, updL_cons] <;> rfl)); (case hp => first | trivial))
 | (refine Awp.skip ?_; try simp only [go_sem, *])
 | refine Awp.block ?_
 | (apply Awp.cond; (case hc => (simp only [go_sem, *] <;> rfl)); all_goals (intro hg; (try simp only [Bool.not_true, Bool.not_false, reduceCtorEq] at hg)))
 | refine Awp.seq ?_)
              refine Awp.loop (fun c : Nat => a + 1 ≤ c ∧ c ≤ Y.length) 120 (fun c => mkS [(0, .v (.int .i64 len)), (1, .v (.int .i64 wid)), (2, .sl (rcs l)), (3, .v (.int .i64 g)), (9, .sl (ints X)), (10, .sl (ints Y)), (12, .own 0), (13, .v (.int .i64 a)), (14, .v (.int .i64 b)), (15, .v (.int .i64 c))] [(0, .row (rcs (O2 ++ r3 P X Y a b c)) 4 54)]) (fun c => Y.length - c) (a + 1) (by omega) ?_ ?_
              · have e1 : O2 ++ r3 P X Y a b (a + 1) = O2 := by rw [z3 a b (a + 1) (Nat.le_refl _), List.append_nil]
                rw [e1]
                clear b1 b2 b3 b4 z3 z4 hXi hYi kf kg hM
                (apply Ghost.mk [(0, 0)] []; (case hdead => rfl); (case hinj => rfl); (case hV => (simp only [go_sem, *]) <;> (repeat' (first | exact .own rfl (by decide)))); (case hB => (simp only [go_sem, *]) <;> (repeat' (first | exact ⟨_, rfl, .rowE (by first | rfl | omega | (simp; done) | (rw [wrap_i64] <;> (try simp only [Int.natCast_add]) <;> omega) | (simp [*]; done))⟩))))
              · intro c ⟨hac, hc⟩
                by_cases hlc : c < Y.length
                · have hlc' : (c : Int) < Y.length := by omega
                  have hO3 : (O2 ++ r3 P X Y a b c).length ≤ 43000 := by
                    have := Nat.le_trans (b3 a b c) (Nat.le_trans (Nat.mul_le_mul (show c ≤ 14 by omega) hX14) (by decide : _ ≤ 196))
                    rw [List.length_append]; omega
                  have hs3 : O2 ++ r3 P X Y a b (c + 1) = O2 ++ r3 P X Y a b c ++ r4 P X Y a b c X.length := by rw [r3, if_pos (by omega), List.append_assoc]
                  have ww2 : IntKind.i64.wrap ((b : Int) + 1) = ((b + 1 : Nat) : Int) := by rw [wrap_i64 (by omega) (by omega)]; omega
                  generalize O2 ++ r3 P X Y a b c = O3 at *
                  repeat' (first
 | (apply Awp.sreg; (case hn => (simp only [List.length_cons, List.length_nil, Nat.reduceAdd] <;> rfl)))
 | (refine st_nil ?_)
 | (apply st_a; (case hc => rfl); (case he => (simp only [go_sem, *] <;> rfl)); (case hu => (simp only [updL_nil, updL_cons] <;> rfl)); (case hp => first | trivial))
 | (refine Awp.skip ?_; try simp only [go_sem, *])
 | refine Awp.block ?_
 | (apply Awp.cond; (case hc => (simp only [go_sem, *] <;> rfl)); all_goals (intro hg; (try simp only [Bool.not_true, Bool.not_false, reduceCtorEq] at hg)))
 | refine Awp.seq ?_)
                  refine Awp.loop (fun d : Nat => b + 1 ≤ d ∧ (d ≤ X.length ∨ d = b + 1)) 130 (fun d => mkS [(0, .v (.int .i64 len)), (1, .v (.int .i64 wid)), (2, .sl (rcs l)), (3, .v (.int .i64 g)), (9, .sl (ints X)), (10, .sl (ints Y)), (12, .own 0), (13, .v (.int .i64 a)), (14, .v (.int .i64 b)), (15, .v (.int .i64 c)), (16, .v (.int .i64 d))] [(0, .row (rcs (O3 ++ r4 P X Y a b c d)) 4 54)]) (fun d => X.length - d) (b + 1) (by omega) ?_ ?_
                  · have e1 : O3 ++ r4 P X Y a b c (b + 1) = O3 := by rw [z4 a b c (b + 1) (Nat.le_refl _), List.append_nil]
                    rw [e1]
                    clear b1 b2 b3 b4 z3 z4 hXi hYi kf kg hM
                    (apply Ghost.mk [(0, 0)] []; (case hdead => rfl); (case hinj => rfl); (case hV => (simp only [go_sem, *]) <;> (repeat' (first | exact .own rfl (by decide)))); (case hB => (simp only [go_sem, *]) <;> (repeat' (first | exact ⟨_, rfl, .rowE (by first | rfl | omega | (simp; done) | (rw [wrap_i64] <;> (try simp only [Int.natCast_add]) <;> omega) | (simp [*]; done))⟩))))
                  · intro d ⟨hbd, hd⟩
                    by_cases hld : d < X.length
                    · have hld' : (d : Int) < X.length := by omega
                      have hata := ints_at Y a hla
                      have hatb := ints_at X b hlb
                      have hatc := ints_at Y c hlc
                      have hatd := ints_at X d hld
                      have hO4 : (O3 ++ r4 P X Y a b c d).length ≤ 43014 := by
                        have := b4 a b c d
                        rw [List.length_append]; omega
                      have hs4 : O3 ++ r4 P X Y a b c (d + 1) = O3 ++ r4 P X Y a b c d ++ if P (rcAt X Y a b c d) = true then [rcAt X Y a b c d] else [] := by rw [r4, decide_eq_true (by omega), Bool.true_and, List.append_assoc]
                      have hsm : Small (rcAt X Y a b c d) := ⟨by have := hXi b hlb; simp only [rcAt]; omega, by have := hYi a hla; simp only [rcAt]; omega, by have := hXi d hld; simp only [rcAt]; omega, by have := hYi c hlc; simp only [rcAt]; omega⟩
                      have f1 := kf (rcAt X Y a b c d)
                      have f2 := kg (rcAt X Y a b c d) hsm
                      have hMr := hM (rcAt X Y a b c d)
                      have e3 := rcs_snocC (O3 ++ r4 P X Y a b c d) (rcAt X Y a b c d)
                      clear b1 b2 b3 b4 z3 z4 hXi hYi kf kg hM hs1 hs2 hs3 hsm
                      generalize O3 ++ r4 P X Y a b c d = O4 at *
                      rw [hMr] at hs4
                      clear hMr
                      cases h1 : F (rcAt X Y a b c d)
                      · rw [h1] at f1 hs4
                        simp only [Bool.false_and, if_false, Bool.false_eq_true, List.append_nil] at hs4
                        unfold rcAt at f1
                        clear f2 h1 e3
                        repeat' (first
 | (apply Awp.sreg; (case hn => (simp only [List.length_cons, List.length_nil, Nat.reduceAdd] <;> rfl)))
 | (apply Awp.sdraw; (case hn => (simp only [List.length_cons, List.length_nil, Nat.reduceAdd] <;> rfl)))
 | (refine st_nil ?_)
 | (apply st_a; (case hc => rfl); (case he => (simp only [go_sem, *] <;> rfl)); (case hu => (simp only [updL_nil, updL_cons] <;> rfl)); (case hp => first | trivial))
 | (apply st_m; (case hc => rfl); (case hg => (simp only [go_sem, *] <;> rfl)); (case he => (intro hQz; (try simp only [wantB_t, wantB_f, Bool.and_eq_true, Bool.not_eq_true', Bool.not_true, Bool.not_false, and_true, true_and] at hQz); simp only [go_sem, *] <;> rfl)); (case hp => (intro hQz; (try simp only [wantB_t, wantB_f, Bool.and_eq_true, Bool.not_eq_true', Bool.or_eq_false_iff, decide_eq_true_eq, decide_eq_false_iff_not, beq_iff_eq, beq_eq_false_iff_ne, bne_iff_ne, bne_eq_false_iff_eq, Int.not_lt, Int.not_le, Int.ofNat_lt, Int.ofNat_le] at hQz); first | trivial)))
 | (apply st_c; (case hc => (simp only [go_sem, *] <;> rfl)); (case hl => (simp only [go_sem, *] <;> rfl)); (case hn => (simp only [go_sem, *] <;> rfl)); (case hp => first | exact f1 | (have hXz := f1; simp only [go_sem, *] at hXz; exact hXz)))
 | (apply st_g; (case hv => (simp only [go_sem, *] <;> rfl)); all_goals (intro hg; (try simp only [Bool.not_true, Bool.not_false, reduceCtorEq] at hg)))
 | (apply Awp.reg; (case hn => (simp only [List.length_cons, List.length_nil, Nat.reduceAdd] <;> rfl)))
 | (refine Awp.skip ?_; try simp only [go_sem, *])
 | refine Awp.block ?_
 | (apply Awp.cond; (case hc => (simp only [go_sem, *] <;> rfl)); all_goals (intro hg; (try simp only [Bool.not_true, Bool.not_false, reduceCtorEq] at hg)))
 | refine Awp.seq ?_
 | (apply sl_a; (case hc => rfl); (case he => (simp only [go_sem, *] <;> rfl)); (case hu => (simp only [updL_nil, updL_cons] <;> rfl)); (case hl => (simp only [List.map_cons, List.map_nil] <;> rfl)); (case hp => first | trivial | omega))
 | (refine sl_nil (And.intro (by first | exact drawOk_of (by decide +kernel) | (simp only [List.map_cons, List.map_nil]; exact drawOk_of (by decide +kernel)) | decide) ?_)))
                        all_goals (refine ⟨d + 1, by omega, by omega, ?_⟩; rw [hs4]; clear hs4 f1; (apply Ghost.mk [(0, 0)] []; (case hdead => rfl); (case hinj => rfl); (case hV => (simp only [go_sem, *]) <;> (repeat' (first | refine And.intro ?_ ?_ | exact View.int (by first | rfl | omega | (simp; done) | (rw [wrap_i64] <;> (try simp only [Int.natCast_add]) <;> omega) | (simp [*]; done)) | exact .own rfl (by decide)))); (case hB => (simp only [go_sem, *]) <;> (repeat' (first | exact ⟨_, rfl, .rowE (by first | rfl | omega | (simp; done) | (rw [wrap_i64] <;> (try simp only [Int.natCast_add]) <;> omega) | (simp [*]; done))⟩)))))
                      · cases h2 : G (rcAt X Y a b c d)
                        · rw [h1, h2] at hs4
                          rw [h1] at f1
                          rw [h2] at f2
                          simp only [Bool.not_false, Bool.and_self, if_true] at hs4
                          unfold rcAt at f1 f2 hs4 e3
                          clear h1 h2
                          repeat' (first
 | (apply Awp.sreg; (case hn => (simp only [List.length_cons, List.length_nil, Nat.reduceAdd] <;> rfl)))
 | (apply Awp.sdraw; (case hn => (simp only [List.length_cons, List.length_nil, Nat.reduceAdd] <;> rfl)))
 | (refine st_nil ?_)
 | (apply st_a; (case hc => rfl); (case he => (simp only [go_sem, *] <;> rfl)); (case hu => (simp only [updL_nil, updL_cons] <;> rfl)); (case hp => first | trivial | (simp; done) | (simp; omega)))
 | (apply st_m; (case hc => rfl); (case hg => (simp only [go_sem, *] <;> rfl)); (case he => (intro hQz; (try simp only [wantB_t, wantB_f, Bool.and_eq_true, Bool.not_eq_true', Bool.not_true, Bool.not_false, and_true, true_and] at hQz); simp only [go_sem, *] <;> rfl)); (case hp => (intro hQz; (try simp only [wantB_t, wantB_f, Bool.and_eq_true, Bool.not_eq_true', Bool.or_eq_false_iff, decide_eq_true_eq, decide_eq_false_iff_not, beq_iff_eq, beq_eq_false_iff_ne, bne_iff_ne, bne_eq_false_iff_eq, Int.not_lt, Int.not_le, Int.ofNat_lt, Int.ofNat_le] at hQz); first | trivial)))
 | (apply st_c; (case hc => (simp only [go_sem, *] <;> rfl)); (case hl => (simp only [go_sem, *] <;> rfl)); (case hn => (simp only [go_sem, *] <;> rfl)); (case hp => first | exact f1 | (have hXz := f1; simp only [go_sem, *] at hXz; exact hXz)))
 | (apply st_mc; (case hop => rfl); (case hg => (simp only [go_sem, *] <;> rfl)); (case hc => (intro hQz; (try simp only [wantB_t, wantB_f, Bool.and_eq_true, Bool.not_eq_true', Bool.not_true, Bool.not_false, and_true, true_and] at hQz); simp only [go_sem, *] <;> rfl)); (case hl => (intro hQz; (try simp only [wantB_t, wantB_f, Bool.and_eq_true, Bool.not_eq_true', Bool.not_true, Bool.not_false, and_true, true_and] at hQz); simp only [go_sem, *] <;> rfl)); (case hn => (intro hQz; (try simp only [wantB_t, wantB_f, Bool.and_eq_true, Bool.not_eq_true', Bool.not_true, Bool.not_false, and_true, true_and] at hQz); simp only [go_sem, *] <;> rfl)); (case hp => intro hQz; first | exact f2 | (have hXz := f2; simp only [go_sem, *] at hXz; exact hXz)))
 | (apply Awp.reg; (case hn => (simp only [List.length_cons, List.length_nil, Nat.reduceAdd] <;> rfl)))
 | (refine Awp.skip ?_; try simp only [go_sem, *])
 | refine Awp.block ?_
 | (apply Awp.cond; (case hc => (simp only [go_sem, *] <;> rfl)); all_goals (intro hg; (try simp only [Bool.not_true, Bool.not_false, reduceCtorEq] at hg)))
 | refine Awp.seq ?_
 | (apply sl_a; (case hc => rfl); (case he => (simp only [go_sem, *] <;> rfl)); (case hu => (simp only [updL_nil, updL_cons] <;> rfl)); (case hl => (simp only [List.map_cons, List.map_nil] <;> rfl)); (case hp => first | trivial | omega))
 | (refine sl_nil (And.intro (by first | exact drawOk_of (by decide +kernel) | (simp only [List.map_cons, List.map_nil]; exact drawOk_of (by decide +kernel)) | decide) ?_)))
                          all_goals (refine ⟨d + 1, by omega, by omega, ?_⟩; rw [hs4, ← e3]; clear hs4 e3 f1 f2; (apply Ghost.mk [(0, 173)] []; (case hdead => rfl); (case hinj => rfl); (case hV => (simp only [go_sem, *]) <;> (repeat' (first | refine And.intro ?_ ?_ | exact View.int (by first | rfl | omega | (simp; done) | (rw [wrap_i64] <;> (try simp only [Int.natCast_add]) <;> omega) | (simp [*]; done)) | exact .own rfl (by decide)))); (case hB => (simp only [go_sem, *]) <;> (repeat' (first | exact ⟨_, rfl, .rowE (by first | rfl | omega | (simp; done) | (rw [wrap_i64] <;> (try simp only [Int.natCast_add]) <;> omega) | (simp [*]; done))⟩)))))
                        · rw [h1, h2] at hs4
                          rw [h1] at f1
                          rw [h2] at f2
                          simp only [Bool.not_true, Bool.and_false, if_false, Bool.false_eq_true, List.append_nil] at hs4
                          unfold rcAt at f1 f2
                          clear h1 h2 e3
                          repeat' (first
 | (apply Awp.sreg; (case hn => (simp only [List.length_cons, List.length_nil, Nat.reduceAdd] <;> rfl)))
 | (apply Awp.sdraw; (case hn => (simp only [List.length_cons, List.length_nil, Nat.reduceAdd] <;> rfl)))
 | (refine st_nil ?_)
 | (apply st_a; (case hc => rfl); (case he => (simp only [go_sem, *] <;> rfl)); (case hu => (simp only [updL_nil, updL_cons] <;> rfl)); (case hp => first | trivial))
 | (apply st_m; (case hc => rfl); (case hg => (simp only [go_sem, *] <;> rfl)); (case he => (intro hQz; (try simp only [wantB_t, wantB_f, Bool.and_eq_true, Bool.not_eq_true', Bool.not_true, Bool.not_false, and_true, true_and] at hQz); simp only [go_sem, *] <;> rfl)); (case hp => (intro hQz; (try simp only [wantB_t, wantB_f, Bool.and_eq_true, Bool.not_eq_true', Bool.or_eq_false_iff, decide_eq_true_eq, decide_eq_false_iff_not, beq_iff_eq, beq_eq_false_iff_ne, bne_iff_ne, bne_eq_false_iff_eq, Int.not_lt, Int.not_le, Int.ofNat_lt, Int.ofNat_le] at hQz); first | trivial)))
 | (apply st_c; (case hc => (simp only [go_sem, *] <;> rfl)); (case hl => (simp only [go_sem, *] <;> rfl)); (case hn => (simp only [go_sem, *] <;> rfl)); (case hp => first | exact f1 | (have hXz := f1; simp only [go_sem, *] at hXz; exact hXz)))
 | (apply st_mc; (case hop => rfl); (case hg => (simp only [go_sem, *] <;> rfl)); (case hc => (intro hQz; (try simp only [wantB_t, wantB_f, Bool.and_eq_true, Bool.not_eq_true', Bool.not_true, Bool.not_false, and_true, true_and] at hQz); simp only [go_sem, *] <;> rfl)); (case hl => (intro hQz; (try simp only [wantB_t, wantB_f, Bool.and_eq_true, Bool.not_eq_true', Bool.not_true, Bool.not_false, and_true, true_and] at hQz); simp only [go_sem, *] <;> rfl)); (case hn => (intro hQz; (try simp only [wantB_t, wantB_f, Bool.and_eq_true, Bool.not_eq_true', Bool.not_true, Bool.not_false, and_true, true_and] at hQz); simp only [go_sem, *] <;> rfl)); (case hp => intro hQz; first | exact f2 | (have hXz := f2; simp only [go_sem, *] at hXz; exact hXz)))
 | (apply Awp.reg; (case hn => (simp only [List.length_cons, List.length_nil, Nat.reduceAdd] <;> rfl)))
 | (refine Awp.skip ?_; try simp only [go_sem, *])
 | refine Awp.block ?_
 | (apply Awp.cond; (case hc => (simp only [go_sem, *] <;> rfl)); all_goals (intro hg; (try simp only [Bool.not_true, Bool.not_false, reduceCtorEq] at hg)))
 | refine Awp.seq ?_
 | (apply sl_a; (case hc => rfl); (case he => (simp only [go_sem, *] <;> rfl)); (case hu => (simp only [updL_nil, updL_cons] <;> rfl)); (case hl => (simp only [List.map_cons, List.map_nil] <;> rfl)); (case hp => first | trivial | omega))
 | (refine sl_nil (And.intro (by first | exact drawOk_of (by decide +kernel) | (simp only [List.map_cons, List.map_nil]; exact drawOk_of (by decide +kernel)) | decide) ?_)))
                          all_goals (refine ⟨d + 1, by omega, by omega, ?_⟩; rw [hs4]; clear hs4 f1 f2; (apply Ghost.mk [(0, 0)] []; (case hdead => rfl); (case hinj => rfl); (case hV => (simp only [go_sem, *]) <;> (repeat' (first | refine And.intro ?_ ?_ | exact View.int (by first | rfl | omega | (simp; done) | (rw [wrap_i64] <;> (try simp only [Int.natCast_add]) <;> omega) | (simp [*]; done)) | exact .own rfl (by decide)))); (case hB => (simp only [go_sem, *]) <;> (repeat' (first | exact ⟨_, rfl, .rowE (by first | rfl | omega | (simp; done) | (rw [wrap_i64] <;> (try simp only [Int.natCast_add]) <;> omega) | (simp [*]; done))⟩)))))
                    · have hld' : ¬ (d : Int) < X.length := by omega
                      have e1 : O3 ++ r4 P X Y a b c d = O2 ++ r3 P X Y a b (c + 1) := by
                        rw [hs3]
                        rcases hd with k | k
                        · rw [show d = X.length by omega]
                        · rw [z4 a b c d (by omega), z4 a b c X.length (by omega)]
                      rw [e1]
                      clear e1 b1 b2 b3 b4 z3 z4 hXi hYi kf kg hM hs1 hs2 hs3
                      repeat' (first
 | (apply Awp.sreg; (case hn => (simp only [List.length_cons, List.length_nil, Nat.reduceAdd] <;> rfl)))
 | (refine st_nil ?_)
 | (apply st_a; (case hc => rfl); (case he => (simp only [go_sem, *] <;> rfl)); (case hu => (simp only [updL_nil, updL_cons] <;> rfl)); (case hp => first | trivial))
 | (apply Awp.reg; (case hn => (simp only [List.length_cons, List.length_nil, Nat.reduceAdd] <;> rfl)))
 | (refine Awp.exit ?_; try simp only [go_sem, *])
 | (apply Awp.cond; (case hc => (simp only [go_sem, *] <;> rfl)); all_goals (intro hg; (try simp only [Bool.not_true, Bool.not_false, reduceCtorEq] at hg)))
 | refine Awp.seq ?_)
                      all_goals (refine ⟨c + 1, by omega, by omega, ?_⟩; (apply Ghost.mk [(0, 0)] []; (case hdead => rfl); (case hinj => rfl); (case hV => (simp only [go_sem, *]) <;> (repeat' (first | refine And.intro ?_ ?_ | exact View.int (by first | rfl | omega | (simp; done) | (rw [wrap_i64] <;> (try simp only [Int.natCast_add]) <;> omega) | (simp [*]; done)) | exact .own rfl (by decide)))); (case hB => (simp only [go_sem, *]) <;> (repeat' (first | exact ⟨_, rfl, .rowE (by first | rfl | omega | (simp; done) | (rw [wrap_i64] <;> (try simp only [Int.natCast_add]) <;> omega) | (simp [*]; done))⟩)))))
                · have hlc' : ¬ (c : Int) < Y.length := by omega
                  have e1 : O2 ++ r3 P X Y a b c = O1 ++ r2 P X Y a (b + 1) := by rw [hs2, show c = Y.length by omega]
                  rw [e1]
                  clear e1 b1 b2 b3 b4 z3 z4 hXi hYi kf kg hM hs1 hs2
                  repeat' (first
 | (apply Awp.sreg; (case hn => (simp only [List.length_cons, List.length_nil, Nat.reduceAdd] <;> rfl)))
 | (refine st_nil ?_)
 | (apply st_a; (case hc => rfl); (case he => (simp only [go_sem, *] <;> rfl)); (case hu => (simp only [updL_nil, updL_cons] <;> rfl)); (case hp => first | trivial))
 | (apply Awp.reg; (case hn => (simp only [List.length_cons, List.length_nil, Nat.reduceAdd] <;> rfl)))
 | (refine Awp.exit ?_; try simp only [go_sem, *])
 | (apply Awp.cond; (case hc => (simp only [go_sem, *] <;> rfl)); all_goals (intro hg; (try simp only [Bool.not_true, Bool.not_false, reduceCtorEq] at hg)))
 | refine Awp.seq ?_)
                  all_goals (refine ⟨b + 1, by omega, by omega, ?_⟩; (apply Ghost.mk [(0, 0)] []; (case hdead => rfl); (case hinj => rfl); (case hV => (simp only [go_sem, *]) <;> (repeat' (first | refine And.intro ?_ ?_ | exact View.int (by first | rfl | omega | (simp; done) | (rw [wrap_i64] <;> (try simp only [Int.natCast_add]) <;> omega) | (simp [*]; done)) | exact .own rfl (by decide)))); (case hB => (simp only [go_sem, *]) <;> (repeat' (first | exact ⟨_, rfl, .rowE (by first | rfl | omega | (simp; done) | (rw [wrap_i64] <;> (try simp only [Int.natCast_add]) <;> omega) | (simp [*]; done))⟩)))))
            · have hlb' : ¬ (b : Int) < X.length := by omega
              have e1 : O1 ++ r2 P X Y a b = r1 P X Y (a + 1) := by rw [hs1, show b = X.length by omega]
              rw [e1]
              clear e1 b1 b2 b3 b4 z3 z4 hXi hYi kf kg hM hs1
              repeat' (first
 | (apply Awp.sreg; (case hn => (simp only [List.length_cons, List.length_nil, Nat.reduceAdd] <;> rfl)))
 | (refine st_nil ?_)
 | (apply st_a; (case hc => rfl); (case he => (simp only [go_sem, *] <;> rfl)); (case hu => (simp only [updL_nil, updL_cons] <;> rfl)); (case hp => first | trivial))
 | (apply Awp.reg; (case hn => (simp only [List.length_cons, List.length_nil, Nat.reduceAdd] <;> rfl)))
 | (refine Awp.exit ?_; try simp only [go_sem, *])
 | (apply Awp.cond; (case hc => (simp only [go_sem, *] <;> rfl)); all_goals (intro hg; (try simp only [Bool.not_true, Bool.not_false, reduceCtorEq] at hg)))
 | refine Awp.seq ?_)
              all_goals (refine ⟨a + 1, by omega, by omega, ?_⟩; (apply Ghost.mk [(0, 0)] []; (case hdead => rfl); (case hinj => rfl); (case hV => (simp only [go_sem, *]) <;> (repeat' (first | refine And.intro ?_ ?_ | exact View.int (by first | rfl | omega | (simp; done) | (rw [wrap_i64] <;> (try simp only [Int.natCast_add]) <;> omega) | (simp [*]; done)) | exact .own rfl (by decide)))); (case hB => (simp only [go_sem, *]) <;> (repeat' (first | exact ⟨_, rfl, .rowE (by first | rfl | omega | (simp; done) | (rw [wrap_i64] <;> (try simp only [Int.natCast_add]) <;> omega) | (simp [*]; done))⟩)))))
        · have hla' : ¬ (a : Int) < Y.length := by omega
          have e1 : a = Y.length := by omega
          rw [e1] at hla' ⊢
          clear e1 b1 b2 b3 b4 z3 z4 hXi hYi kf kg hM
          repeat' (first
 | (apply Awp.sreg; (case hn => (simp only [List.length_cons, List.length_nil, Nat.reduceAdd] <;> rfl)))
 | (refine st_nil ?_)
 | (apply st_a; (case hc => rfl); (case he => (simp only [go_sem, *] <;> rfl)); (case hu => (simp only [updL_nil, updL_cons] <;> rfl)); (case hp => first | trivial))
 | (refine Awp.ret ?_; try simp only [go_sem, *])
 | (refine Awp.exit ?_; try simp only [go_sem, *])
 | (apply Awp.cond; (case hc => (simp only [go_sem, *] <;> rfl)); all_goals (intro hg; (try simp only [Bool.not_true, Bool.not_false, reduceCtorEq] at hg)))
 | refine Awp.seq ?_)
          all_goals repeat' (first | exact Lower.ownE (by simp only [go_sem, *] <;> rfl) (by first | rfl | (simp only [true_and, Bool.true_and, Bool.false_and, Bool.and_true, Bool.and_false, Bool.true_or, Bool.false_or, reduceIte, Bool.false_eq_true, *]; done) | (simp only [true_and, reduceIte, Bool.false_eq_true, *] <;> rfl) | (simp [true_and]; done) | (simp_all [true_and]; done) | omega))
end Go.Proofs
end
section
set_option linter.unusedVariables false
set_option linter.unusedSimpArgs false
namespace Go.Proofs
open Go Go.Ab
set_option maxHeartbeats 8000000
set_option maxRecDepth 100000
@[go_sem] theorem Tryz.co23 : Tryz.prog.cellsOf 23 = 6 := by kernel_rfl
@[go_sem] theorem Tryz.ag23 : isAggB Tryz.prog 23 = true := by kernel_rfl
attribute [local irreducible] Awp aops aopsL Go.Ab.Pure PureOwn
structure She where
  id : ByteArray
  grade : ByteArray
  thick : Int
  len : Int
  wid : Int
  heat : ByteArray
def She.cells (s : She) : List AV := [.v (.string s.id), .v (.string s.grade), .v (.int .i64 s.thick), .v (.int .i64 s.len), .v (.int .i64 s.wid), .v (.string s.heat)]
def She.av (s : She) : AV := .agg s.cells
attribute [go_sem] She.av She.cells
def zeroShe : She := ⟨⟨⟨[]⟩⟩, ⟨⟨[]⟩⟩, 0, 0, 0, ⟨⟨[]⟩⟩⟩
def lowL (sh : She) (ts : List Spt) (ps : List Pa) (gap : Int) : Rc × Bool := largestE sh.len sh.wid (takenE ts ps).1 gap
def ofE (sh : She) (gap : Int) (ts : List Spt) (ps : List Pa) (least : Int) : She × Bool :=
  if ((takenE ts ps).2 != 0) = true then (zeroShe, false) else
  if (lowL sh ts ps gap).2 = true then
    if decide (min ((lowL sh ts ps gap).1.c - (lowL sh ts ps gap).1.a) ((lowL sh ts ps gap).1.d - (lowL sh ts ps gap).1.b) < least) = true then (zeroShe, false) else
    (⟨sh.id ++ ⟨⟨[114]⟩⟩, sh.grade, sh.thick, max ((lowL sh ts ps gap).1.c - (lowL sh ts ps gap).1.a) ((lowL sh ts ps gap).1.d - (lowL sh ts ps gap).1.b), min ((lowL sh ts ps gap).1.c - (lowL sh ts ps gap).1.a) ((lowL sh ts ps gap).1.d - (lowL sh ts ps gap).1.b), sh.heat⟩, true)
  else (zeroShe, false)
theorem largest_small (len wid : Int) (l : List Rc) (g : Int) : Small (largestE len wid l g).1 := by
  unfold largestE
  split
  · exact ⟨by decide, by decide, by decide, by decide⟩
  · rename_i h
    refine maxL_small (len := len) (wid := wid) (l := l) (g := g) _ (best_mem fun e => h ?_)
    rw [e]; rfl
theorem of_ok (sh : She) (nm : ByteArray) (gap : Int) (ts : List Spt) (ps : List Pa) (least : Int) (hid : sh.id.size < 9000000000000000000) (h : FewP ts ps) : Pure Tryz.prog 8 [sh.av, nestAv nm gap ts, .sl (pas ps), .v (.int .i64 least)] (.tup [(ofE sh gap ts ps least).1.av, .v (.bool (ofE sh gap ts ps least).2)]) := by
  have hid2 : (((sh.id.size + (⟨⟨[114]⟩⟩ : ByteArray).size : Nat) : Int)) ≤ 9223372036854775807 := by show ((sh.id.size + 1 : Nat) : Int) ≤ _; omega
  clear hid
  have k1 := taken_ok nm gap ts ps h
  have htl : (takenE ts ps).1.length < 1000000 := by
    unfold takenE
    split
    · simp
    · simpa using (shapes_few h).1
  have k2 := largest_ok sh.len sh.wid (takenE ts ps).1 gap
  have hsm := largest_small sh.len sh.wid (takenE ts ps).1 gap
  unfold ofE lowL
  clear h htl
  generalize (takenE ts ps).1 = T at *
  generalize (takenE ts ps).2 = e at *
  cases he : (e != 0)
  case true =>
    rw [if_pos rfl]
    unfold zeroShe
    clear hsm k2
    refine fn_pure Tryz.F8 (Nat.le_of_ble_eq_true rfl) ?_; unfold Tryz.ac8
    repeat' (first
 | (apply Awp.sreg; (case hn => (simp only [List.length_cons, List.length_nil, Nat.reduceAdd] <;> rfl)))
 | (refine st_nil ?_)
 | (apply st_a; (case hc => rfl); (case he => (simp only [go_sem, *] <;> rfl)); (case hu => (simp only [updL_nil, updL_cons] <;> rfl)); (case hp => first | assumption | trivial))
 | (apply st_c; (case hc => (simp only [go_sem, *] <;> rfl)); (case hl => (simp only [go_sem, *] <;> rfl)); (case hn => (simp only [go_sem, *] <;> rfl)); (case hp => first | exact k1 | (have hXz := k1; simp only [go_sem, *] at hXz; exact hXz)))
 | (refine Awp.ret ?_; try simp only [go_sem, *])
 | (apply Awp.cond; (case hc => (simp only [go_sem, *] <;> rfl)); all_goals (intro hg; (try simp only [Bool.not_true, Bool.not_false, reduceCtorEq] at hg)))
 | refine Awp.seq ?_)
    all_goals repeat' (first | exact Lower.bool (by first | rfl | (simp only [true_and, Bool.true_and, Bool.false_and, Bool.and_true, Bool.and_false, Bool.true_or, Bool.false_or, reduceIte, Bool.false_eq_true, *]; done) | (simp only [true_and, reduceIte, Bool.false_eq_true, *] <;> rfl) | (simp [true_and]; done) | (simp_all [true_and]; done) | omega) | exact Lower.int (by first | rfl | (simp only [true_and, Bool.true_and, Bool.false_and, Bool.and_true, Bool.and_false, Bool.true_or, Bool.false_or, reduceIte, Bool.false_eq_true, *]; done) | (simp only [true_and, reduceIte, Bool.false_eq_true, *] <;> rfl) | (simp [true_and]; done) | (simp_all [true_and]; done) | omega) | exact Lower.str (by first | rfl | (simp only [true_and, Bool.true_and, Bool.false_and, Bool.and_true, Bool.and_false, Bool.true_or, Bool.false_or, reduceIte, Bool.false_eq_true, *]; done) | (simp only [true_and, reduceIte, Bool.false_eq_true, *] <;> rfl) | (simp [true_and]; done) | (simp_all [true_and]; done) | omega) | refine Lower.aggF ?_ | refine Lower.tupF ?_ | refine All2.cons ?_ ?_ | exact All2.nil)
  rw [if_neg (by decide)]
  generalize largestE sh.len sh.wid T gap = L at *
  obtain ⟨r, ok⟩ := L
  simp only [] at k2 hsm ⊢
  have w1 : IntKind.i64.wrap (r.c - r.a) = r.c - r.a := wrap_i64 (by have := hsm.a; have := hsm.c; omega) (by have := hsm.a; have := hsm.c; omega)
  have w2 : IntKind.i64.wrap (r.d - r.b) = r.d - r.b := wrap_i64 (by have := hsm.b; have := hsm.d; omega) (by have := hsm.b; have := hsm.d; omega)
  have e1 := mnI (r.c - r.a) (r.d - r.b)
  have e2 := mxI (r.c - r.a) (r.d - r.b)
  clear hsm
  cases hok : ok
  case false =>
    rw [hok] at k2
    rw [if_neg (by decide)]
    unfold zeroShe
    refine fn_pure Tryz.F8 (Nat.le_of_ble_eq_true rfl) ?_; unfold Tryz.ac8
    repeat' (first
 | (apply Awp.sreg; (case hn => (simp only [List.length_cons, List.length_nil, Nat.reduceAdd] <;> rfl)))
 | (apply Awp.sdraw; (case hn => (simp only [List.length_cons, List.length_nil, Nat.reduceAdd] <;> rfl)))
 | (refine st_nil ?_)
 | (apply st_a; (case hc => rfl); (case he => (simp only [go_sem, *] <;> rfl)); (case hu => (simp only [updL_nil, updL_cons] <;> rfl)); (case hp => first | assumption | trivial))
 | (apply st_m; (case hc => rfl); (case hg => (simp only [go_sem, *] <;> rfl)); (case he => (intro hQz; (try simp only [wantB_t, wantB_f, Bool.and_eq_true, Bool.not_eq_true', Bool.not_true, Bool.not_false, and_true, true_and] at hQz); simp only [go_sem, *] <;> rfl)); (case hp => (intro hQz; (try simp only [wantB_t, wantB_f, Bool.and_eq_true, Bool.not_eq_true', Bool.or_eq_false_iff, decide_eq_true_eq, decide_eq_false_iff_not, beq_iff_eq, beq_eq_false_iff_ne, bne_iff_ne, bne_eq_false_iff_eq, Int.not_lt, Int.not_le, Int.ofNat_lt, Int.ofNat_le] at hQz); first | assumption)))
 | (apply st_c; (case hc => (simp only [go_sem, *] <;> rfl)); (case hl => (simp only [go_sem, *] <;> rfl)); (case hn => (simp only [go_sem, *] <;> rfl)); (case hp => first | exact k1 | (have hXz := k1; simp only [go_sem, *] at hXz; exact hXz)))
 | (apply st_c; (case hc => (simp only [go_sem, *] <;> rfl)); (case hl => (simp only [go_sem, *] <;> rfl)); (case hn => (simp only [go_sem, *] <;> rfl)); (case hp => first | exact k2 | (have hXz := k2; simp only [go_sem, *] at hXz; exact hXz)))
 | (refine Awp.ret ?_; try simp only [go_sem, *])
 | (refine Awp.skip ?_; try simp only [go_sem, *])
 | (apply Awp.cond; (case hc => (simp only [go_sem, *] <;> rfl)); all_goals (intro hg; (try simp only [Bool.not_true, Bool.not_false, reduceCtorEq] at hg)))
 | refine Awp.seq ?_
 | (apply sl_a; (case hc => rfl); (case he => (simp only [go_sem, *] <;> rfl)); (case hu => (simp only [updL_nil, updL_cons] <;> rfl)); (case hl => (simp only [List.map_cons, List.map_nil] <;> rfl)); (case hp => first | assumption))
 | (refine sl_nil (And.intro (by first | exact drawOk_of (by decide +kernel) | (simp only [List.map_cons, List.map_nil]; exact drawOk_of (by decide +kernel)) | decide) ?_)))
    all_goals repeat' (first | exact Lower.bool (by first | rfl | (simp only [true_and, Bool.true_and, Bool.false_and, Bool.and_true, Bool.and_false, Bool.true_or, Bool.false_or, reduceIte, Bool.false_eq_true, *]; done) | (simp only [true_and, reduceIte, Bool.false_eq_true, *] <;> rfl) | (simp [true_and]; done) | (simp_all [true_and]; done) | omega) | exact Lower.int (by first | rfl | (simp only [true_and, Bool.true_and, Bool.false_and, Bool.and_true, Bool.and_false, Bool.true_or, Bool.false_or, reduceIte, Bool.false_eq_true, *]; done) | (simp only [true_and, reduceIte, Bool.false_eq_true, *] <;> rfl) | (simp [true_and]; done) | (simp_all [true_and]; done) | omega) | exact Lower.str (by first | rfl | (simp only [true_and, Bool.true_and, Bool.false_and, Bool.and_true, Bool.and_false, Bool.true_or, Bool.false_or, reduceIte, Bool.false_eq_true, *]; done) | (simp only [true_and, reduceIte, Bool.false_eq_true, *] <;> rfl) | (simp [true_and]; done) | (simp_all [true_and]; done) | omega) | refine Lower.aggF ?_ | refine Lower.tupF ?_ | refine All2.cons ?_ ?_ | exact All2.nil)
  rw [hok] at k2
  rw [if_pos rfl]
  cases hlt : decide (min (r.c - r.a) (r.d - r.b) < least)
  · rw [if_neg (by decide)]
    refine fn_pure Tryz.F8 (Nat.le_of_ble_eq_true rfl) ?_; unfold Tryz.ac8
    repeat' (first
 | (apply Awp.sreg; (case hn => (simp only [List.length_cons, List.length_nil, Nat.reduceAdd] <;> rfl)))
 | (apply Awp.sdraw; (case hn => (simp only [List.length_cons, List.length_nil, Nat.reduceAdd] <;> rfl)))
 | (refine st_nil ?_)
 | (apply st_a; (case hc => rfl); (case he => (simp only [go_sem, *] <;> rfl)); (case hu => (simp only [updL_nil, updL_cons] <;> rfl)); (case hp => first | assumption | trivial))
 | (apply st_m; (case hc => rfl); (case hg => (simp only [go_sem, *] <;> rfl)); (case he => (intro hQz; (try simp only [wantB_t, wantB_f, Bool.and_eq_true, Bool.not_eq_true', Bool.not_true, Bool.not_false, and_true, true_and] at hQz); simp only [go_sem, *] <;> rfl)); (case hp => (intro hQz; (try simp only [wantB_t, wantB_f, Bool.and_eq_true, Bool.not_eq_true', Bool.or_eq_false_iff, decide_eq_true_eq, decide_eq_false_iff_not, beq_iff_eq, beq_eq_false_iff_ne, bne_iff_ne, bne_eq_false_iff_eq, Int.not_lt, Int.not_le, Int.ofNat_lt, Int.ofNat_le] at hQz); first | assumption)))
 | (apply st_c; (case hc => (simp only [go_sem, *] <;> rfl)); (case hl => (simp only [go_sem, *] <;> rfl)); (case hn => (simp only [go_sem, *] <;> rfl)); (case hp => first | exact k1 | (have hXz := k1; simp only [go_sem, *] at hXz; exact hXz)))
 | (apply st_c; (case hc => (simp only [go_sem, *] <;> rfl)); (case hl => (simp only [go_sem, *] <;> rfl)); (case hn => (simp only [go_sem, *] <;> rfl)); (case hp => first | exact k2 | (have hXz := k2; simp only [go_sem, *] at hXz; exact hXz)))
 | (refine Awp.ret ?_; try simp only [go_sem, *])
 | (refine Awp.skip ?_; try simp only [go_sem, *])
 | (apply Awp.cond; (case hc => (simp only [go_sem, *] <;> rfl)); all_goals (intro hg; (try simp only [Bool.not_true, Bool.not_false, reduceCtorEq] at hg)))
 | refine Awp.seq ?_
 | (apply sl_a; (case hc => rfl); (case he => (simp only [go_sem, *] <;> rfl)); (case hu => (simp only [updL_nil, updL_cons] <;> rfl)); (case hl => (simp only [List.map_cons, List.map_nil] <;> rfl)); (case hp => first | assumption))
 | (refine sl_nil (And.intro (by first | exact drawOk_of (by decide +kernel) | (simp only [List.map_cons, List.map_nil]; exact drawOk_of (by decide +kernel)) | decide) ?_)))
    all_goals repeat' (first | exact Lower.bool (by first | rfl | (simp only [true_and, Bool.true_and, Bool.false_and, Bool.and_true, Bool.and_false, Bool.true_or, Bool.false_or, reduceIte, Bool.false_eq_true, *]; done) | (simp only [true_and, reduceIte, Bool.false_eq_true, *] <;> rfl) | (simp [true_and]; done) | (simp_all [true_and]; done) | omega) | exact Lower.int (by first | rfl | (simp only [true_and, Bool.true_and, Bool.false_and, Bool.and_true, Bool.and_false, Bool.true_or, Bool.false_or, reduceIte, Bool.false_eq_true, *]; done) | (simp only [true_and, reduceIte, Bool.false_eq_true, *] <;> rfl) | (simp [true_and]; done) | (simp_all [true_and]; done) | omega) | exact Lower.str (by first | rfl | (simp only [true_and, Bool.true_and, Bool.false_and, Bool.and_true, Bool.and_false, Bool.true_or, Bool.false_or, reduceIte, Bool.false_eq_true, *]; done) | (simp only [true_and, reduceIte, Bool.false_eq_true, *] <;> rfl) | (simp [true_and]; done) | (simp_all [true_and]; done) | omega) | refine Lower.aggF ?_ | refine Lower.tupF ?_ | refine All2.cons ?_ ?_ | exact All2.nil)
  · rw [if_pos rfl]
    unfold zeroShe
    refine fn_pure Tryz.F8 (Nat.le_of_ble_eq_true rfl) ?_; unfold Tryz.ac8
    repeat' (first
 | (apply Awp.sreg; (case hn => (simp only [List.length_cons, List.length_nil, Nat.reduceAdd] <;> rfl)))
 | (apply Awp.sdraw; (case hn => (simp only [List.length_cons, List.length_nil, Nat.reduceAdd] <;> rfl)))
 | (refine st_nil ?_)
 | (apply st_a; (case hc => rfl); (case he => (simp only [go_sem, *] <;> rfl)); (case hu => (simp only [updL_nil, updL_cons] <;> rfl)); (case hp => first | assumption | trivial))
 | (apply st_m; (case hc => rfl); (case hg => (simp only [go_sem, *] <;> rfl)); (case he => (intro hQz; (try simp only [wantB_t, wantB_f, Bool.and_eq_true, Bool.not_eq_true', Bool.not_true, Bool.not_false, and_true, true_and] at hQz); simp only [go_sem, *] <;> rfl)); (case hp => (intro hQz; (try simp only [wantB_t, wantB_f, Bool.and_eq_true, Bool.not_eq_true', Bool.or_eq_false_iff, decide_eq_true_eq, decide_eq_false_iff_not, beq_iff_eq, beq_eq_false_iff_ne, bne_iff_ne, bne_eq_false_iff_eq, Int.not_lt, Int.not_le, Int.ofNat_lt, Int.ofNat_le] at hQz); first | assumption)))
 | (apply st_c; (case hc => (simp only [go_sem, *] <;> rfl)); (case hl => (simp only [go_sem, *] <;> rfl)); (case hn => (simp only [go_sem, *] <;> rfl)); (case hp => first | exact k1 | (have hXz := k1; simp only [go_sem, *] at hXz; exact hXz)))
 | (apply st_c; (case hc => (simp only [go_sem, *] <;> rfl)); (case hl => (simp only [go_sem, *] <;> rfl)); (case hn => (simp only [go_sem, *] <;> rfl)); (case hp => first | exact k2 | (have hXz := k2; simp only [go_sem, *] at hXz; exact hXz)))
 | (refine Awp.ret ?_; try simp only [go_sem, *])
 | (refine Awp.skip ?_; try simp only [go_sem, *])
 | (apply Awp.cond; (case hc => (simp only [go_sem, *] <;> rfl)); all_goals (intro hg; (try simp only [Bool.not_true, Bool.not_false, reduceCtorEq] at hg)))
 | refine Awp.seq ?_
 | (apply sl_a; (case hc => rfl); (case he => (simp only [go_sem, *] <;> rfl)); (case hu => (simp only [updL_nil, updL_cons] <;> rfl)); (case hl => (simp only [List.map_cons, List.map_nil] <;> rfl)); (case hp => first | assumption))
 | (refine sl_nil (And.intro (by first | exact drawOk_of (by decide +kernel) | (simp only [List.map_cons, List.map_nil]; exact drawOk_of (by decide +kernel)) | decide) ?_)))
    all_goals repeat' (first | exact Lower.bool (by first | rfl | (simp only [true_and, Bool.true_and, Bool.false_and, Bool.and_true, Bool.and_false, Bool.true_or, Bool.false_or, reduceIte, Bool.false_eq_true, *]; done) | (simp only [true_and, reduceIte, Bool.false_eq_true, *] <;> rfl) | (simp [true_and]; done) | (simp_all [true_and]; done) | omega) | exact Lower.int (by first | rfl | (simp only [true_and, Bool.true_and, Bool.false_and, Bool.and_true, Bool.and_false, Bool.true_or, Bool.false_or, reduceIte, Bool.false_eq_true, *]; done) | (simp only [true_and, reduceIte, Bool.false_eq_true, *] <;> rfl) | (simp [true_and]; done) | (simp_all [true_and]; done) | omega) | exact Lower.str (by first | rfl | (simp only [true_and, Bool.true_and, Bool.false_and, Bool.and_true, Bool.and_false, Bool.true_or, Bool.false_or, reduceIte, Bool.false_eq_true, *]; done) | (simp only [true_and, reduceIte, Bool.false_eq_true, *] <;> rfl) | (simp [true_and]; done) | (simp_all [true_and]; done) | omega) | refine Lower.aggF ?_ | refine Lower.tupF ?_ | refine All2.cons ?_ ?_ | exact All2.nil)
end Go.Proofs
end
section
set_option linter.unusedVariables false
set_option linter.unusedSimpArgs false
namespace Go.Proofs
open Go Go.Ab
set_option maxHeartbeats 8000000
set_option maxRecDepth 100000
attribute [local irreducible] Awp aops aopsL Go.Ab.Pure PureOwn
theorem any_tk {α : Type} (p : α → Bool) (l : List α) (d : α) (i : Nat) (h : i < l.length) : (l.take (i + 1)).any p = ((l.take i).any p || p (l.getD i d)) := by
  rw [take_snoc l d i h, List.any_append]
  simp
def farC (c : List Pt) : Bool := c.any farB
theorem move_form (s : Sh) (t : Spt) : moveE s t = if (badMv t || (s.out :: s.holes).any farC) = true then ⟨[], []⟩ else ⟨movC t s.out, s.holes.map (movC t)⟩ := by
  have e : (s.out :: s.holes).any farC = (s.out :: s.holes).any (fun c => c.any farB) := rfl
  unfold moveE
  rw [← e]
  generalize (s.out :: s.holes).any farC = b
  cases badMv t
  · rw [if_neg (by decide), Bool.false_or]
  · rw [if_pos rfl, Bool.true_or, if_pos rfl]
theorem rmove_ok (s : Sh) (t : Spt) (hl : ∀ c ∈ s.out :: s.holes, c.length < 1000000) (hh : s.holes.length < 900000) : Pure Tryz.prog 36 [s.av, t.av] (moveE s t).av := by
  have c1 := rfar_ok ⟨t.x, t.y⟩
  have c2 := rcontours_ok s (by omega)
  rw [move_form]
  have hC : (s.out :: s.holes).length < 1000000 := by simp; omega
  obtain ⟨C, hCe⟩ : ∃ C, C = s.out :: s.holes := ⟨_, rfl⟩
  have hcon : badMv t = false → C.any farC = false → ∀ c ∈ C, Pure Tryz.prog 61 [.sl (pts c), t.av] (.sl (pts (movC t c))) := fun h1 h2 c hc => by
    unfold badMv at h1
    simp only [Bool.or_eq_false_iff] at h1
    obtain ⟨⟨k1, k2⟩, k3⟩ := h1
    have k1 := of_decide_eq_false k1
    have k2 := of_decide_eq_false k2
    refine rcontour_ok c t (fun p hp => ?_) (by omega) k3 (hl c (by rw [← hCe]; exact hc))
    rw [List.any_eq_false] at h2
    have := h2 c hc
    unfold farC at this
    rw [Bool.not_eq_true, List.any_eq_false] at this
    simpa using this p hp
  have hap : ∀ i, i < C.length → (C.getD i []).length < 1000000 := fun i hi => hl _ (by rw [← hCe]; exact getD_in C [] i hi)
  have hmem : s.out ∈ C := by rw [hCe]; simp
  have hholes : ∀ k, k < s.holes.length → s.holes.getD k [] ∈ C := fun k hk => by rw [hCe]; exact List.mem_cons_of_mem _ (getD_in _ [] k hk)
  rw [← hCe] at c2 hC ⊢
  have hst : ∀ k, k < s.holes.length → (s.holes.take (k + 1)).map (movC t) = (s.holes.take k).map (movC t) ++ [movC t (s.holes.getD k [])] := fun k hk => by rw [take_snoc s.holes [] k hk]; simp
  have hcases : (decide (t.turn < 0) = true ∧ badMv t = true) ∨ (decide (t.turn < 0) = false ∧ decide (3 < t.turn) = true ∧ badMv t = true) ∨ (decide (t.turn < 0) = false ∧ decide (3 < t.turn) = false ∧ badMv t = farB ⟨t.x, t.y⟩) := by
    unfold badMv
    cases decide (t.turn < 0) <;> cases decide (3 < t.turn) <;> simp
  clear hCe hl
  obtain ⟨B, hBe⟩ : ∃ B, badMv t = B := ⟨_, rfl⟩
  rw [hBe] at hcon hcases ⊢
  clear hBe
  obtain ⟨F, hF⟩ : ∃ F, farB ⟨t.x, t.y⟩ = F := ⟨_, rfl⟩
  rw [hF] at c1 hcases
  clear hF
  rcases hcases with ⟨h1, hB⟩ | ⟨h1, h2, hB⟩ | ⟨h1, h2, hB⟩
  all_goals (
    change Hid _ at hB
    refine fn_pure Tryz.F36 (Nat.le_of_ble_eq_true rfl) ?_; unfold Tryz.ac36
    repeat' (first
 | (apply Awp.sreg; (case hn => (simp only [List.length_cons, List.length_nil, Nat.reduceAdd] <;> rfl)))
 | (refine st_nil ?_)
 | (apply st_a; (case hc => rfl); (case he => (simp only [go_sem, *] <;> rfl)); (case hu => (simp only [updL_nil, updL_cons] <;> rfl)); (case hp => first | trivial))
 | (apply st_m; (case hc => rfl); (case hg => (simp only [go_sem, *] <;> rfl)); (case he => (intro hQz; (try simp only [wantB_t, wantB_f, Bool.and_eq_true, Bool.not_eq_true', Bool.not_true, Bool.not_false, and_true, true_and] at hQz); simp only [go_sem, *] <;> rfl)); (case hp => (intro hQz; (try simp only [wantB_t, wantB_f, Bool.and_eq_true, Bool.not_eq_true', Bool.or_eq_false_iff, decide_eq_true_eq, decide_eq_false_iff_not, beq_iff_eq, beq_eq_false_iff_ne, bne_iff_ne, bne_eq_false_iff_eq, Int.not_lt, Int.not_le, Int.ofNat_lt, Int.ofNat_le] at hQz); first | trivial)))
 | (apply st_mc; (case hop => rfl); (case hg => (simp only [go_sem, *] <;> rfl)); (case hc => (intro hQz; (try simp only [wantB_t, wantB_f, Bool.and_eq_true, Bool.not_eq_true', Bool.not_true, Bool.not_false, and_true, true_and] at hQz); simp only [go_sem, *] <;> rfl)); (case hl => (intro hQz; (try simp only [wantB_t, wantB_f, Bool.and_eq_true, Bool.not_eq_true', Bool.not_true, Bool.not_false, and_true, true_and] at hQz); simp only [go_sem, *] <;> rfl)); (case hn => (intro hQz; (try simp only [wantB_t, wantB_f, Bool.and_eq_true, Bool.not_eq_true', Bool.not_true, Bool.not_false, and_true, true_and] at hQz); simp only [go_sem, *] <;> rfl)); (case hp => intro hQz; first | exact c1 | (have hXz := c1; simp only [go_sem, *] at hXz; exact hXz)))
 | (apply st_c; (case hc => (simp only [go_sem, *] <;> rfl)); (case hl => (simp only [go_sem, *] <;> rfl)); (case hn => (simp only [go_sem, *] <;> rfl)); (case hp => first | exact c2 | (have hXz := c2; simp only [go_sem, *] at hXz; exact hXz)))
 | refine Awp.block ?_
 | refine Awp.seq ?_)
    clear c1 c2 h1
    refine Awp.loop (fun x : Nat × Bool => x.1 ≤ C.length ∧ x.2 = (B || (C.take x.1).any farC)) 80 (fun x => mkS [(2, .bp 0 0), (3, .bp 1 0), (4, .bp 2 0), (5, .sl (pps C)), (6, .v (.bool x.2)), (7, .v (.int .i64 x.1))] [(0, .box s.cells), (1, .box t.cells), (2, .box [.nils, .nils])]) (fun x => C.length - x.1) (0, B) ⟨Nat.zero_le _, by simp⟩ ?_ ?_
    · clear hcon hap hmem hholes hst
      unfold Hid at hB
      dsimp only
      (apply Ghost.mk [(0, 0), (1, 1), (2, 2)] []; (case hdead => rfl); (case hinj => rfl); (case hV => (simp only [go_sem, *]) <;> (repeat' (first | refine And.intro ?_ ?_ | exact View.int (by first | rfl | omega | (simp; done) | (rw [wrap_i64] <;> (try simp only [Int.natCast_add]) <;> omega) | (simp [*]; done)) | exact .bp rfl (by decide)))); (case hB => (simp only [go_sem, *]) <;> (repeat' (first | refine And.intro ?_ ?_ | exact ⟨_, rfl, BView.boxF rfl⟩))))
    · intro ⟨i, b⟩ ⟨hi, hb⟩
      dsimp only at hi hb ⊢
      change Hid _ at hb
      by_cases hlt : i < C.length
      · have hlt' : (i : Int) < C.length := by omega
        have hat := pps_at C i hlt
        have hany := any_tk farC C [] i hlt
        have hcl := hap i hlt
        clear hcon hap hmem hholes hst
        generalize C.getD i [] = c at *
        repeat' (first
 | (apply Awp.sreg; (case hn => (simp only [List.length_cons, List.length_nil, Nat.reduceAdd] <;> rfl)))
 | (refine st_nil ?_)
 | (apply st_a; (case hc => rfl); (case he => (simp only [go_sem, *] <;> rfl)); (case hu => (simp only [updL_nil, updL_cons] <;> rfl)); (case hp => first | trivial))
 | (refine Awp.skip ?_; try simp only [go_sem, *])
 | refine Awp.block ?_
 | (apply Awp.cond; (case hc => (simp only [go_sem, *] <;> rfl)); all_goals (intro hg; (try simp only [Bool.not_true, Bool.not_false, reduceCtorEq] at hg)))
 | refine Awp.seq ?_)
        refine Awp.loop (fun x : Nat × Bool => x.1 ≤ c.length ∧ x.2 = (b || (c.take x.1).any farB)) 100 (fun x => mkS [(2, .bp 0 0), (3, .bp 1 0), (4, .bp 2 0), (5, .sl (pps C)), (6, .v (.bool x.2)), (7, .v (.int .i64 i)), (8, .v (.int .i64 x.1))] [(0, .box s.cells), (1, .box t.cells), (2, .box [.nils, .nils])]) (fun x => c.length - x.1) (0, b) ⟨Nat.zero_le _, by simp⟩ ?_ ?_
        · clear hb hany
          (apply Ghost.mk [(0, 0), (1, 1), (2, 2)] []; (case hdead => rfl); (case hinj => rfl); (case hV => (simp only [go_sem, *]) <;> (repeat' (first | refine And.intro ?_ ?_ | exact View.int (by first | rfl | omega | (simp; done) | (rw [wrap_i64] <;> (try simp only [Int.natCast_add]) <;> omega) | (simp [*]; done)) | exact .bp rfl (by decide)))); (case hB => (simp only [go_sem, *]) <;> (repeat' (first | refine And.intro ?_ ?_ | exact ⟨_, rfl, BView.boxF rfl⟩))))
        · intro ⟨k, d⟩ ⟨hk, hd⟩
          dsimp only at hk hd ⊢
          change Hid _ at hd
          by_cases hlk : k < c.length
          · have hlk' : (k : Int) < c.length := by omega
            have hatk := pts_at c k hlk
            have hz : ((c.getD k zeroPt).cells).length = 2 := rfl
            have hank := any_tk farB c zeroPt k hlk
            have kf := rfar_ok (c.getD k zeroPt)
            clear hb hany
            cases d
            · have hnx : Hid (farB (c.getD k zeroPt) = (b || (c.take (k + 1)).any farB)) := by
                have hd : false = _ := hd
                show farB (c.getD k zeroPt) = _
                rw [hank, ← Bool.or_assoc, ← hd, Bool.false_or]
              clear hank hd
              generalize farB (c.getD k zeroPt) = f at *
              generalize c.getD k zeroPt = p at *
              repeat' (first
 | (apply Awp.sreg; (case hn => (simp only [List.length_cons, List.length_nil, Nat.reduceAdd] <;> rfl)))
 | (refine st_nil ?_)
 | (apply st_a; (case hc => rfl); (case he => (simp only [go_sem, *] <;> rfl)); (case hu => (simp only [updL_nil, updL_cons] <;> rfl)); (case hp => first | trivial | omega))
 | (apply st_m; (case hc => rfl); (case hg => (simp only [go_sem, *] <;> rfl)); (case he => (intro hQz; (try simp only [wantB_t, wantB_f, Bool.and_eq_true, Bool.not_eq_true', Bool.not_true, Bool.not_false, and_true, true_and] at hQz); simp only [go_sem, *] <;> rfl)); (case hp => (intro hQz; (try simp only [wantB_t, wantB_f, Bool.and_eq_true, Bool.not_eq_true', Bool.or_eq_false_iff, decide_eq_true_eq, decide_eq_false_iff_not, beq_iff_eq, beq_eq_false_iff_ne, bne_iff_ne, bne_eq_false_iff_eq, Int.not_lt, Int.not_le, Int.ofNat_lt, Int.ofNat_le] at hQz); first | trivial | omega)))
 | (apply st_mc; (case hop => rfl); (case hg => (simp only [go_sem, *] <;> rfl)); (case hc => (intro hQz; (try simp only [wantB_t, wantB_f, Bool.and_eq_true, Bool.not_eq_true', Bool.not_true, Bool.not_false, and_true, true_and] at hQz); simp only [go_sem, *] <;> rfl)); (case hl => (intro hQz; (try simp only [wantB_t, wantB_f, Bool.and_eq_true, Bool.not_eq_true', Bool.not_true, Bool.not_false, and_true, true_and] at hQz); simp only [go_sem, *] <;> rfl)); (case hn => (intro hQz; (try simp only [wantB_t, wantB_f, Bool.and_eq_true, Bool.not_eq_true', Bool.not_true, Bool.not_false, and_true, true_and] at hQz); simp only [go_sem, *] <;> rfl)); (case hp => intro hQz; first | exact kf | (have hXz := kf; simp only [go_sem, *] at hXz; exact hXz)))
 | (apply Awp.reg; (case hn => (simp only [List.length_cons, List.length_nil, Nat.reduceAdd] <;> rfl)))
 | (refine Awp.skip ?_; try simp only [go_sem, *])
 | refine Awp.block ?_
 | (apply Awp.cond; (case hc => (simp only [go_sem, *] <;> rfl)); all_goals (intro hg; (try simp only [Bool.not_true, Bool.not_false, reduceCtorEq] at hg)))
 | refine Awp.seq ?_)
              all_goals (refine ⟨(k + 1, f), ⟨by dsimp only; omega, hnx⟩, by dsimp only; omega, ?_⟩; dsimp only; clear hnx kf; (apply Ghost.mk [(0, 0), (1, 1), (2, 2)] []; (case hdead => rfl); (case hinj => rfl); (case hV => (simp only [go_sem, *]) <;> (repeat' (first | refine And.intro ?_ ?_ | exact View.int (by first | rfl | omega | (simp; done) | (rw [wrap_i64] <;> (try simp only [Int.natCast_add]) <;> omega) | (simp [*]; done)) | exact .bp rfl (by decide)))); (case hB => (simp only [go_sem, *]) <;> (repeat' (first | refine And.intro ?_ ?_ | exact ⟨_, rfl, BView.boxF rfl⟩)))))
            · have hnx : Hid (true = (b || (c.take (k + 1)).any farB)) := by
                have hd : true = _ := hd
                show true = _
                rw [hank, ← Bool.or_assoc, ← hd, Bool.true_or]
              clear hank hd kf
              repeat' (first
 | (apply Awp.sreg; (case hn => (simp only [List.length_cons, List.length_nil, Nat.reduceAdd] <;> rfl)))
 | (refine st_nil ?_)
 | (apply st_a; (case hc => rfl); (case he => (simp only [go_sem, *] <;> rfl)); (case hu => (simp only [updL_nil, updL_cons] <;> rfl)); (case hp => first | trivial | omega))
 | (apply st_m; (case hc => rfl); (case hg => (simp only [go_sem, *] <;> rfl)); (case he => (intro hQz; (try simp only [wantB_t, wantB_f, Bool.and_eq_true, Bool.not_eq_true', Bool.not_true, Bool.not_false, and_true, true_and] at hQz); simp only [go_sem, *] <;> rfl)); (case hp => (intro hQz; (try simp only [wantB_t, wantB_f, Bool.and_eq_true, Bool.not_eq_true', Bool.or_eq_false_iff, decide_eq_true_eq, decide_eq_false_iff_not, beq_iff_eq, beq_eq_false_iff_ne, bne_iff_ne, bne_eq_false_iff_eq, Int.not_lt, Int.not_le, Int.ofNat_lt, Int.ofNat_le] at hQz); first | trivial)))
 | (apply st_g; (case hv => (simp only [go_sem, *] <;> rfl)); all_goals (intro hg; (try simp only [Bool.not_true, Bool.not_false, reduceCtorEq] at hg)))
 | (apply Awp.reg; (case hn => (simp only [List.length_cons, List.length_nil, Nat.reduceAdd] <;> rfl)))
 | (refine Awp.skip ?_; try simp only [go_sem, *])
 | refine Awp.block ?_
 | (apply Awp.cond; (case hc => (simp only [go_sem, *] <;> rfl)); all_goals (intro hg; (try simp only [Bool.not_true, Bool.not_false, reduceCtorEq] at hg)))
 | refine Awp.seq ?_)
              all_goals (refine ⟨(k + 1, true), ⟨by dsimp only; omega, hnx⟩, by dsimp only; omega, ?_⟩; dsimp only; clear hnx; (apply Ghost.mk [(0, 0), (1, 1), (2, 2)] []; (case hdead => rfl); (case hinj => rfl); (case hV => (simp only [go_sem, *]) <;> (repeat' (first | refine And.intro ?_ ?_ | exact View.int (by first | rfl | omega | (simp; done) | (rw [wrap_i64] <;> (try simp only [Int.natCast_add]) <;> omega) | (simp [*]; done)) | exact .bp rfl (by decide)))); (case hB => (simp only [go_sem, *]) <;> (repeat' (first | refine And.intro ?_ ?_ | exact ⟨_, rfl, BView.boxF rfl⟩)))))
          · have hlk' : ¬ (k : Int) < c.length := by omega
            have e1 : c.take k = c := List.take_of_length_le (by omega)
            rw [e1] at hd
            have hnx : Hid (d = (B || (C.take (i + 1)).any farC)) := by
              have hb : b = _ := hb
              show d = _
              rw [hany, ← Bool.or_assoc, ← hb]
              exact hd
            clear e1 hd hb hany
            repeat' (first
 | (apply Awp.sreg; (case hn => (simp only [List.length_cons, List.length_nil, Nat.reduceAdd] <;> rfl)))
 | (refine st_nil ?_)
 | (apply st_a; (case hc => rfl); (case he => (simp only [go_sem, *] <;> rfl)); (case hu => (simp only [updL_nil, updL_cons] <;> rfl)); (case hp => first | trivial | omega))
 | (apply Awp.reg; (case hn => (simp only [List.length_cons, List.length_nil, Nat.reduceAdd] <;> rfl)))
 | (refine Awp.exit ?_; try simp only [go_sem, *])
 | (apply Awp.cond; (case hc => (simp only [go_sem, *] <;> rfl)); all_goals (intro hg; (try simp only [Bool.not_true, Bool.not_false, reduceCtorEq] at hg)))
 | refine Awp.seq ?_)
            all_goals (refine ⟨(i + 1, d), ⟨by dsimp only; omega, hnx⟩, by dsimp only; omega, ?_⟩; dsimp only; clear hnx; (apply Ghost.mk [(0, 0), (1, 1), (2, 2)] []; (case hdead => rfl); (case hinj => rfl); (case hV => (simp only [go_sem, *]) <;> (repeat' (first | refine And.intro ?_ ?_ | exact View.int (by first | rfl | omega | (simp; done) | (rw [wrap_i64] <;> (try simp only [Int.natCast_add]) <;> omega) | (simp [*]; done)) | exact .bp rfl (by decide)))); (case hB => (simp only [go_sem, *]) <;> (repeat' (first | refine And.intro ?_ ?_ | exact ⟨_, rfl, BView.boxF rfl⟩)))))
      · have hlt' : ¬ (i : Int) < C.length := by omega
        have e1 : C.take i = C := List.take_of_length_le (by omega)
        rw [e1] at hb
        have hb : b = _ := hb
        rw [← hb]
        change Hid _ at hb
        clear e1 hlt hi hap
        cases b
        case true =>
          rw [if_pos rfl]
          have e1 : pts [] = [] := rfl
          have e2 : pps [] = [] := rfl
          clear hcon hb hmem hholes hst
          repeat' (first
 | (apply Awp.sreg; (case hn => (simp only [List.length_cons, List.length_nil, Nat.reduceAdd] <;> rfl)))
 | (refine st_nil ?_)
 | (apply st_a; (case hc => rfl); (case he => (simp only [go_sem, *] <;> rfl)); (case hu => (simp only [updL_nil, updL_cons] <;> rfl)); (case hp => first | trivial))
 | (refine Awp.ret ?_; try simp only [go_sem, *])
 | (refine Awp.exit ?_; try simp only [go_sem, *])
 | (apply Awp.cond; (case hc => (simp only [go_sem, *] <;> rfl)); all_goals (intro hg; (try simp only [Bool.not_true, Bool.not_false, reduceCtorEq] at hg)))
 | refine Awp.seq ?_)
          all_goals repeat' (first | exact Lower.nilE (by first | rfl | (simp only [true_and, Bool.true_and, Bool.false_and, Bool.and_true, Bool.and_false, Bool.true_or, Bool.false_or, reduceIte, Bool.false_eq_true, *]; done) | (simp only [true_and, reduceIte, Bool.false_eq_true, *] <;> rfl) | (simp [true_and]; done) | (simp_all [true_and]; done) | omega) | refine Lower.aggF ?_ | refine All2.cons ?_ ?_ | exact All2.nil)
        rw [if_neg (by decide)]
        have hb2 := (Bool.or_eq_false_iff.1 (Eq.symm (show false = _ from hb)))
        have hm := hcon hb2.1 hb2.2
        have m0 := hm s.out hmem
        have mh : ∀ k, k < s.holes.length → Pure Tryz.prog 61 [.sl (pts (s.holes.getD k [])), t.av] (.sl (pts (movC t (s.holes.getD k [])))) := fun k hk => hm _ (hholes k hk)
        clear hcon hb hb2 hm hmem hholes hC
        repeat' (first
 | (apply Awp.sreg; (case hn => (simp only [List.length_cons, List.length_nil, Nat.reduceAdd] <;> rfl)))
 | (refine st_nil ?_)
 | (apply st_a; (case hc => rfl); (case he => (simp only [go_sem, *] <;> rfl)); (case hu => (simp only [updL_nil, updL_cons] <;> rfl)); (case hp => first | trivial))
 | (apply st_c; (case hc => (simp only [go_sem, *] <;> rfl)); (case hl => (simp only [go_sem, *] <;> rfl)); (case hn => (simp only [go_sem, *] <;> rfl)); (case hp => first | exact m0 | (have hXz := m0; simp only [go_sem, *] at hXz; exact hXz)))
 | (refine Awp.skip ?_; try simp only [go_sem, *])
 | (refine Awp.exit ?_; try simp only [go_sem, *])
 | refine Awp.block ?_
 | (apply Awp.cond; (case hc => (simp only [go_sem, *] <;> rfl)); all_goals (intro hg; (try simp only [Bool.not_true, Bool.not_false, reduceCtorEq] at hg)))
 | refine Awp.seq ?_)
        clear m0
        refine Awp.loop (fun k : Nat => k ≤ s.holes.length) 200 (fun k => mkS [(2, .bp 0 0), (3, .bp 1 0), (4, .bp 2 0), (9, .bp 3 0), (10, .v (.int .i64 k))] [(0, .box s.cells), (1, .box t.cells), (2, .box [.nils, .nils]), (3, .box [.sl (pts (movC t s.out)), .own 4]), (4, .row (pps ((s.holes.take k).map (movC t))) 1 40)]) (fun k => s.holes.length - k) 0 (by omega) ?_ ?_
        · refine Ghost.trans (Ghost.nameBoxAt 90 1 1 40 rfl (Nat.le_of_ble_eq_true rfl) rfl rfl (by decide)) ?_
          have e1 : pps ((s.holes.take 0).map (movC t)) = [] := rfl
          rw [e1]
          clear hst mh
          (apply Ghost.mk [(0, 0), (1, 1), (2, 2), (3, 90), (4, 93)] []; (case hdead => rfl); (case hinj => rfl); (case hV => (simp only [go_sem, *]) <;> (repeat' (first | refine And.intro ?_ ?_ | exact View.int (by first | rfl | omega | (simp; done) | (rw [wrap_i64] <;> (try simp only [Int.natCast_add]) <;> omega) | (simp [*]; done)) | exact .bp rfl (by decide)))); (case hB => (simp only [go_sem, *]) <;> (repeat' (first | refine And.intro ?_ ?_ | exact ⟨_, rfl, BView.slOwn rfl (by decide)⟩ | exact ⟨_, rfl, BView.boxF rfl⟩ | exact ⟨_, rfl, .rowE (by first | rfl | omega | (simp; done) | (rw [wrap_i64] <;> (try simp only [Int.natCast_add]) <;> omega) | (simp [*]; done))⟩))))
        · intro k hk
          by_cases hlk : k < s.holes.length
          · have hlk' : (k : Int) < s.holes.length := by omega
            have hatk := pps_at s.holes k hlk
            have hs := hst k hlk
            have hm := mh k hlk
            have hln : ((s.holes.take k).map (movC t)).length = k := by simp; omega
            clear hst mh
            generalize s.holes.getD k [] = c at *
            generalize (s.holes.take k).map (movC t) = L at *
            generalize movC t c = c2 at *
            have e3 := pps_snoc L c2
            repeat' (first
 | (apply Awp.sreg; (case hn => (simp only [List.length_cons, List.length_nil, Nat.reduceAdd] <;> rfl)))
 | (refine st_nil ?_)
 | (apply st_a; (case hc => rfl); (case he => (simp only [go_sem, *] <;> rfl)); (case hu => (simp only [updL_nil, updL_cons] <;> rfl)); (case hp => first | trivial))
 | (apply Awp.reg; (case hn => (simp only [List.length_cons, List.length_nil, Nat.reduceAdd] <;> rfl)))
 | (refine Awp.skip ?_; try simp only [go_sem, *])
 | refine Awp.block ?_
 | (apply Awp.cond; (case hc => (simp only [go_sem, *] <;> rfl)); all_goals (intro hg; (try simp only [Bool.not_true, Bool.not_false, reduceCtorEq] at hg)))
 | refine Awp.seq ?_
 | (refine Awp.draw ?_)
 | (apply sl_a; (case hc => rfl); (case he => (simp only [go_sem, *] <;> rfl)); (case hu => (simp only [updL_nil, updL_cons] <;> rfl)); (case hl => (simp only [List.map_cons, List.map_nil] <;> rfl)); (case hp => first | trivial | omega | (simp; done) | (simp; omega)))
 | (apply sl_c; (case hc => (simp only [go_sem, *] <;> rfl)); (case hl => (simp only [go_sem, *] <;> rfl)); (case hn => (simp only [go_sem, *] <;> rfl)); (case hp => first | exact hm | (have hXz := hm; simp only [go_sem, *] at hXz; exact hXz)); (case hd => first | exact .inl rfl | exact .inr (.v _) | exact .inr .any | exact .inr .nils | (refine .inr ?_; (repeat' (first | exact Dry.v _ | exact Dry.any | exact Dry.nils | exact Dry.slE | refine Dry.agg ?_ | refine Dry.tup ?_ | (refine List.forall_mem_cons.2 (And.intro ?_ ?_)) | (intro cQ hQ; cases hQ; done))); done)); (case hm => first | decide | (simp; done)))
 | (refine sl_nil (And.intro (by first | exact drawOk_of (by decide +kernel) | (simp only [List.map_cons, List.map_nil]; exact drawOk_of (by decide +kernel)) | decide) ?_)))
            all_goals (refine ⟨k + 1, by omega, by omega, ?_⟩; rw [hs, ← e3]; clear hs e3 hm; (apply Ghost.mk [(0, 0), (1, 1), (2, 2), (3, 3), (4, 215)] []; (case hdead => rfl); (case hinj => rfl); (case hV => (simp only [go_sem, *]) <;> (repeat' (first | refine And.intro ?_ ?_ | exact View.int (by first | rfl | omega | (simp; done) | (rw [wrap_i64] <;> (try simp only [Int.natCast_add]) <;> omega) | (simp [*]; done)) | exact .bp rfl (by decide)))); (case hB => (simp only [go_sem, *]) <;> (repeat' (first | refine And.intro ?_ ?_ | exact ⟨_, rfl, BView.slOwn rfl (by decide)⟩ | exact ⟨_, rfl, BView.boxF rfl⟩ | exact ⟨_, rfl, .rowE (by first | rfl | omega | (simp; done) | (rw [wrap_i64] <;> (try simp only [Int.natCast_add]) <;> omega) | (simp [*]; done))⟩)))))
          · have hlk' : ¬ (k : Int) < s.holes.length := by omega
            have e1 : s.holes.take k = s.holes := List.take_of_length_le (by omega)
            rw [e1]
            clear e1 hst mh
            repeat' (first
 | (apply Awp.sreg; (case hn => (simp only [List.length_cons, List.length_nil, Nat.reduceAdd] <;> rfl)))
 | (refine st_nil ?_)
 | (apply st_a; (case hc => rfl); (case he => (simp only [go_sem, *] <;> rfl)); (case hu => (simp only [updL_nil, updL_cons] <;> rfl)); (case hp => first | trivial))
 | (refine Awp.ret ?_; try simp only [go_sem, *])
 | (refine Awp.exit ?_; try simp only [go_sem, *])
 | (apply Awp.cond; (case hc => (simp only [go_sem, *] <;> rfl)); all_goals (intro hg; (try simp only [Bool.not_true, Bool.not_false, reduceCtorEq] at hg)))
 | refine Awp.seq ?_)
            all_goals repeat' (first | exact Lower.ownE (by simp only [go_sem, *] <;> rfl) (by first | rfl | (simp only [true_and, Bool.true_and, Bool.false_and, Bool.and_true, Bool.and_false, Bool.true_or, Bool.false_or, reduceIte, Bool.false_eq_true, *]; done) | (simp only [true_and, reduceIte, Bool.false_eq_true, *] <;> rfl) | (simp [true_and]; done) | (simp_all [true_and]; done) | omega) | exact Lower.slE' (by first | rfl | (simp only [true_and, Bool.true_and, Bool.false_and, Bool.and_true, Bool.and_false, Bool.true_or, Bool.false_or, reduceIte, Bool.false_eq_true, *]; done) | (simp only [true_and, reduceIte, Bool.false_eq_true, *] <;> rfl) | (simp [true_and]; done) | (simp_all [true_and]; done) | omega) | refine Lower.aggF ?_ | refine All2.cons ?_ ?_ | exact All2.nil))
end Go.Proofs
end
