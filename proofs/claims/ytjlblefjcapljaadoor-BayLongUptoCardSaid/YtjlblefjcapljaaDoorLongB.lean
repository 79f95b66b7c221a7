import Derived.Test.YtjlblefjcapljaaDoorLongA
section
set_option linter.unusedVariables false
set_option linter.unusedSimpArgs false
namespace Go.Proofs
open Go Go.Ab
set_option maxHeartbeats 4000000
set_option maxRecDepth 100000
set_option linter.unusedSimpArgs false
set_option linter.unusedVariables false
attribute [local irreducible] Awp aops aopsL Go.Ab.Pure PureOwn
theorem zero_bys (n : Nat) : List.replicate n [AV.v (.string ⟨⟨[]⟩⟩), .v (.int .i64 0), .v (.int .i64 0)] = bys (List.replicate n zeroBy) := by simp [bys, zeroBy, By.cells]
theorem zero_stys (n : Nat) : List.replicate n [AV.v (.string ⟨⟨[]⟩⟩), .v (.string ⟨⟨[]⟩⟩), .v (.int .i64 0), .v (.int .i64 0), .v (.int .i64 0), .v (.int .i64 0), .v (.int .i64 0), .v (.int .i64 0)] = stys (List.replicate n zeroSty) := by simp [stys, zeroSty, Sty.cells]
theorem check_long {bs : List By} {l : List Sty} (h : 8 < bs.length ∨ 128 < l.length) : checkE bs l = 4 := by
  unfold checkE
  rw [if_pos]
  simp
  omega
def lgS (p : Pl) (x : Sty) (L : List Sty) (i : Nat) : AState := mkS [(3, .bp 0 0), (5, .bp 1 0), (9, .own 2), (10, .v (.int .i64 i))] [(0, .box [.sl (bys p.bays), .sl (stys p.stays)]), (1, .box x.cells), (2, .row (stys L) 8 31)]
def lgJ (p : Pl) (x : Sty) (L : List Sty) : AState := mkS [(3, .bp 0 0), (5, .bp 1 0), (9, .sl (stys L)), (10, .v (.int .i64 128))] [(0, .box [.sl (bys p.bays), .sl (stys p.stays)]), (1, .box x.cells)]
theorem long_ok (p : Pl) (a0 a1 : Int) (x : Sty) (h0 : 0 ≤ a0 ∧ a0 < 256) (h1 : 0 ≤ a1 ∧ a1 < 256) (hx : x.item.size < 2000000) : Pure Tryd.prog 4 [p.av, .agg [.v (.int .u8 a0), .v (.int .u8 a1)], x.av] (.v (.bool true)) := by
  have w0 : IntKind.i64.wrap a0 = a0 := wrap_i64 (by omega) (by omega)
  have w1 : IntKind.i64.wrap a1 = a1 := wrap_i64 (by omega) (by omega)
  obtain ⟨n, hn, hn2⟩ : ∃ n : Nat, a0.tmod 200 = (n : Int) ∧ n < 200 := ⟨(a0.tmod 200).toNat, by rw [Int.tmod_eq_emod_of_nonneg h0.1]; omega, by rw [Int.tmod_eq_emod_of_nonneg h0.1]; omega⟩
  obtain ⟨m, hm, hm2⟩ : ∃ m : Nat, a1.tmod 200 = (m : Int) ∧ m < 200 := ⟨(a1.tmod 200).toNat, by rw [Int.tmod_eq_emod_of_nonneg h1.1]; omega, by rw [Int.tmod_eq_emod_of_nonneg h1.1]; omega⟩
  have t1 : ((n : Int)).toNat = n := Int.toNat_natCast n
  have t2 : ((m : Int)).toNat = m := Int.toNat_natCast m
  have zb := zero_bys n
  have zs := zero_stys m
  have lb : (bys (List.replicate n zeroBy)).length = n := by simp [bys]
  have ls : (stys (List.replicate m zeroSty)).length = m := by simp [stys]
  have s1 : (32 : Int) * n ≤ 281474976710656 ∧ 80 * (m : Int) ≤ 281474976710656 := by omega
  by_cases hL : 8 < n ∨ 128 < m
  · have c0 := check_ok (List.replicate n zeroBy) (List.replicate m zeroSty) (by simp; omega) (by simp; omega)
    rw [check_long (by simpa using hL)] at c0
    have e4 : ((4 : Int) == 4) = true := rfl
    by_cases hb : 8 < n
    · have d1 : decide ((8 : Int) < n) = true := decide_eq_true (by omega)
      clear hL hb h0 h1
      unfold Pl.av at *
      refine fn_pure Tryd.F4 (Nat.le_of_ble_eq_true rfl) ?_; unfold Tryd.ac4
      repeat' (first
    | (apply Awp.sreg; (case hn => (simp only [List.length_cons, List.length_nil, Nat.reduceAdd] <;> rfl)))
    | (apply Awp.sdraw; (case hn => (simp only [List.length_cons, List.length_nil, Nat.reduceAdd] <;> rfl)))
    | (refine st_nil ?_)
    | (apply st_a; (case hc => rfl); (case he => (simp only [go_sem, *] <;> rfl)); (case hu => (simp only [updL_nil, updL_cons] <;> rfl)); (case hp => first | trivial | assumption | omega | (simp; done) | (simp; omega) | (simp [*]; done) | ((repeat' (refine And.intro ?_ ?_)) <;> first | trivial | assumption | omega | (simp; done) | (simp; omega) | (simp [*]; done))))
    | (apply st_m; (case hc => rfl); (case hg => (simp only [go_sem, *] <;> rfl)); (case he => (intro hQz; (try simp only [wantB_t, wantB_f, Bool.and_eq_true, Bool.not_eq_true', Bool.not_true, Bool.not_false, and_true, true_and] at hQz); simp only [go_sem, *] <;> rfl)); (case hp => (intro hQz; (try simp only [wantB_t, wantB_f, Bool.and_eq_true, Bool.not_eq_true', Bool.or_eq_false_iff, decide_eq_true_eq, decide_eq_false_iff_not, beq_iff_eq, beq_eq_false_iff_ne, bne_iff_ne, bne_eq_false_iff_eq, Int.not_lt, Int.not_le, Int.ofNat_lt, Int.ofNat_le] at hQz); first | trivial | assumption | omega | (simp; done) | (simp; omega) | (simp [*]; done) | ((repeat' (refine And.intro ?_ ?_)) <;> first | trivial | assumption | omega | (simp; done) | (simp; omega) | (simp [*]; done)))))
    | (apply st_cd; (case hc => (simp only [go_sem, *] <;> rfl)); (case hl => (simp only [go_sem, *] <;> rfl)); (case hn => (simp only [go_sem, *] <;> rfl)); (case hp => first | exact c0 | (have hXz := c0; simp only [go_sem, *] at hXz; exact hXz)); (case hd => first | exact .v _ | exact .any | exact .nils | (repeat' (first | exact Dry.v _ | exact Dry.any | exact Dry.nils | exact Dry.slE | refine Dry.agg ?_ | refine Dry.tup ?_ | (refine List.forall_mem_cons.2 (And.intro ?_ ?_)) | (intro cQ hQ; cases hQ; done)))); (case hm => first | decide | (simp; done)))
    | (apply st_mc; (case hop => rfl); (case hg => (simp only [go_sem, *] <;> rfl)); (case hc => (intro hQz; (try simp only [wantB_t, wantB_f, Bool.and_eq_true, Bool.not_eq_true', Bool.not_true, Bool.not_false, and_true, true_and] at hQz); simp only [go_sem, *] <;> rfl)); (case hl => (intro hQz; (try simp only [wantB_t, wantB_f, Bool.and_eq_true, Bool.not_eq_true', Bool.not_true, Bool.not_false, and_true, true_and] at hQz); simp only [go_sem, *] <;> rfl)); (case hn => (intro hQz; (try simp only [wantB_t, wantB_f, Bool.and_eq_true, Bool.not_eq_true', Bool.not_true, Bool.not_false, and_true, true_and] at hQz); simp only [go_sem, *] <;> rfl)); (case hp => intro hQz; first | exact awake_ok | (have hXz := awake_ok; simp only [go_sem, *] at hXz; exact hXz)))
    | (refine Awp.ret ?_; try simp only [go_sem, *])
    | (apply Awp.cond; (case hc => (simp only [go_sem, *] <;> rfl)); all_goals (intro hg; (try simp only [Bool.not_true, Bool.not_false, reduceCtorEq] at hg)))
    | refine Awp.seq ?_
    | (apply sl_a; (case hc => rfl); (case he => (simp only [go_sem, *] <;> rfl)); (case hu => (simp only [updL_nil, updL_cons] <;> rfl)); (case hl => (simp only [List.map_cons, List.map_nil] <;> rfl)); (case hp => first | trivial | assumption | omega | (simp; done) | (simp; omega) | (simp [*]; done) | ((repeat' (refine And.intro ?_ ?_)) <;> first | trivial | assumption | omega | (simp; done) | (simp; omega) | (simp [*]; done))))
    | (refine sl_nil (And.intro (by first | exact drawOk_of (by decide +kernel) | (simp only [List.map_cons, List.map_nil]; exact drawOk_of (by decide +kernel)) | decide) ?_)))
      all_goals repeat' (first | exact Lower.bool (by first | rfl | (simp only [true_and, Bool.true_and, Bool.false_and, Bool.and_true, Bool.and_false, Bool.true_or, Bool.false_or, reduceIte, Bool.false_eq_true, *]; done) | (simp only [true_and, reduceIte, Bool.false_eq_true, *] <;> rfl) | (simp [true_and]; done) | (simp_all [true_and]; done) | omega))
    · have d1 : decide ((8 : Int) < n) = false := decide_eq_false (by omega)
      have d2 : decide ((128 : Int) < m) = true := decide_eq_true (by omega)
      clear hL hb h0 h1
      unfold Pl.av at *
      refine fn_pure Tryd.F4 (Nat.le_of_ble_eq_true rfl) ?_; unfold Tryd.ac4
      repeat' (first
    | (apply Awp.sreg; (case hn => (simp only [List.length_cons, List.length_nil, Nat.reduceAdd] <;> rfl)))
    | (apply Awp.sdraw; (case hn => (simp only [List.length_cons, List.length_nil, Nat.reduceAdd] <;> rfl)))
    | (refine st_nil ?_)
    | (apply st_a; (case hc => rfl); (case he => (simp only [go_sem, *] <;> rfl)); (case hu => (simp only [updL_nil, updL_cons] <;> rfl)); (case hp => first | trivial | assumption | omega | (simp; done) | (simp; omega) | (simp [*]; done) | ((repeat' (refine And.intro ?_ ?_)) <;> first | trivial | assumption | omega | (simp; done) | (simp; omega) | (simp [*]; done))))
    | (apply st_m; (case hc => rfl); (case hg => (simp only [go_sem, *] <;> rfl)); (case he => (intro hQz; (try simp only [wantB_t, wantB_f, Bool.and_eq_true, Bool.not_eq_true', Bool.not_true, Bool.not_false, and_true, true_and] at hQz); simp only [go_sem, *] <;> rfl)); (case hp => (intro hQz; (try simp only [wantB_t, wantB_f, Bool.and_eq_true, Bool.not_eq_true', Bool.or_eq_false_iff, decide_eq_true_eq, decide_eq_false_iff_not, beq_iff_eq, beq_eq_false_iff_ne, bne_iff_ne, bne_eq_false_iff_eq, Int.not_lt, Int.not_le, Int.ofNat_lt, Int.ofNat_le] at hQz); first | trivial | assumption | omega | (simp; done) | (simp; omega) | (simp [*]; done) | ((repeat' (refine And.intro ?_ ?_)) <;> first | trivial | assumption | omega | (simp; done) | (simp; omega) | (simp [*]; done)))))
    | (apply st_cd; (case hc => (simp only [go_sem, *] <;> rfl)); (case hl => (simp only [go_sem, *] <;> rfl)); (case hn => (simp only [go_sem, *] <;> rfl)); (case hp => first | exact c0 | (have hXz := c0; simp only [go_sem, *] at hXz; exact hXz)); (case hd => first | exact .v _ | exact .any | exact .nils | (repeat' (first | exact Dry.v _ | exact Dry.any | exact Dry.nils | exact Dry.slE | refine Dry.agg ?_ | refine Dry.tup ?_ | (refine List.forall_mem_cons.2 (And.intro ?_ ?_)) | (intro cQ hQ; cases hQ; done)))); (case hm => first | decide | (simp; done)))
    | (apply st_mc; (case hop => rfl); (case hg => (simp only [go_sem, *] <;> rfl)); (case hc => (intro hQz; (try simp only [wantB_t, wantB_f, Bool.and_eq_true, Bool.not_eq_true', Bool.not_true, Bool.not_false, and_true, true_and] at hQz); simp only [go_sem, *] <;> rfl)); (case hl => (intro hQz; (try simp only [wantB_t, wantB_f, Bool.and_eq_true, Bool.not_eq_true', Bool.not_true, Bool.not_false, and_true, true_and] at hQz); simp only [go_sem, *] <;> rfl)); (case hn => (intro hQz; (try simp only [wantB_t, wantB_f, Bool.and_eq_true, Bool.not_eq_true', Bool.not_true, Bool.not_false, and_true, true_and] at hQz); simp only [go_sem, *] <;> rfl)); (case hp => intro hQz; first | exact awake_ok | (have hXz := awake_ok; simp only [go_sem, *] at hXz; exact hXz)))
    | (refine Awp.ret ?_; try simp only [go_sem, *])
    | (apply Awp.cond; (case hc => (simp only [go_sem, *] <;> rfl)); all_goals (intro hg; (try simp only [Bool.not_true, Bool.not_false, reduceCtorEq] at hg)))
    | refine Awp.seq ?_
    | (apply sl_a; (case hc => rfl); (case he => (simp only [go_sem, *] <;> rfl)); (case hu => (simp only [updL_nil, updL_cons] <;> rfl)); (case hl => (simp only [List.map_cons, List.map_nil] <;> rfl)); (case hp => first | trivial | assumption | omega | (simp; done) | (simp; omega) | (simp [*]; done) | ((repeat' (refine And.intro ?_ ?_)) <;> first | trivial | assumption | omega | (simp; done) | (simp; omega) | (simp [*]; done))))
    | (refine sl_nil (And.intro (by first | exact drawOk_of (by decide +kernel) | (simp only [List.map_cons, List.map_nil]; exact drawOk_of (by decide +kernel)) | decide) ?_)))
      all_goals repeat' (first | exact Lower.bool (by first | rfl | (simp only [true_and, Bool.true_and, Bool.false_and, Bool.and_true, Bool.and_false, Bool.true_or, Bool.false_or, reduceIte, Bool.false_eq_true, *]; done) | (simp only [true_and, reduceIte, Bool.false_eq_true, *] <;> rfl) | (simp [true_and]; done) | (simp_all [true_and]; done) | omega))
  have d1 : decide ((8 : Int) < n) = false := decide_eq_false (by omega)
  have d2 : decide ((128 : Int) < m) = false := decide_eq_false (by omega)
  clear hL h0 h1
  have c0 := right_ok p
  have hpl := bys_len p.bays
  cases hR : rightB p
  · rw [hR] at c0
    unfold Pl.av at *
    refine fn_pure Tryd.F4 (Nat.le_of_ble_eq_true rfl) ?_; unfold Tryd.ac4
    repeat' (first
    | (apply Awp.sreg; (case hn => (simp only [List.length_cons, List.length_nil, Nat.reduceAdd] <;> rfl)))
    | (apply Awp.sdraw; (case hn => (simp only [List.length_cons, List.length_nil, Nat.reduceAdd] <;> rfl)))
    | (refine st_nil ?_)
    | (apply st_a; (case hc => rfl); (case he => (simp only [go_sem, *] <;> rfl)); (case hu => (simp only [updL_nil, updL_cons] <;> rfl)); (case hp => first | trivial | assumption | omega | (simp; done) | (simp; omega) | (simp [*]; done) | ((repeat' (refine And.intro ?_ ?_)) <;> first | trivial | assumption | omega | (simp; done) | (simp; omega) | (simp [*]; done))))
    | (apply st_m; (case hc => rfl); (case hg => (simp only [go_sem, *] <;> rfl)); (case he => (intro hQz; (try simp only [wantB_t, wantB_f, Bool.and_eq_true, Bool.not_eq_true', Bool.not_true, Bool.not_false, and_true, true_and] at hQz); simp only [go_sem, *] <;> rfl)); (case hp => (intro hQz; (try simp only [wantB_t, wantB_f, Bool.and_eq_true, Bool.not_eq_true', Bool.or_eq_false_iff, decide_eq_true_eq, decide_eq_false_iff_not, beq_iff_eq, beq_eq_false_iff_ne, bne_iff_ne, bne_eq_false_iff_eq, Int.not_lt, Int.not_le, Int.ofNat_lt, Int.ofNat_le] at hQz); first | trivial | assumption | omega | (simp; done) | (simp; omega) | (simp [*]; done) | ((repeat' (refine And.intro ?_ ?_)) <;> first | trivial | assumption | omega | (simp; done) | (simp; omega) | (simp [*]; done)))))
    | (apply st_c; (case hc => (simp only [go_sem, *] <;> rfl)); (case hl => (simp only [go_sem, *] <;> rfl)); (case hn => (simp only [go_sem, *] <;> rfl)); (case hp => first | exact c0 | (have hXz := c0; simp only [go_sem, *] at hXz; exact hXz)))
    | (apply st_c; (case hc => (simp only [go_sem, *] <;> rfl)); (case hl => (simp only [go_sem, *] <;> rfl)); (case hn => (simp only [go_sem, *] <;> rfl)); (case hp => first | exact awake_ok | (have hXz := awake_ok; simp only [go_sem, *] at hXz; exact hXz)))
    | (apply st_g; (case hv => (simp only [go_sem, *] <;> rfl)); all_goals (intro hg; (try simp only [Bool.not_true, Bool.not_false, reduceCtorEq] at hg)))
    | (refine Awp.ret ?_; try simp only [go_sem, *])
    | (refine Awp.skip ?_; try simp only [go_sem, *])
    | (apply Awp.cond; (case hc => (simp only [go_sem, *] <;> rfl)); all_goals (intro hg; (try simp only [Bool.not_true, Bool.not_false, reduceCtorEq] at hg)))
    | refine Awp.seq ?_
    | (apply sl_a; (case hc => rfl); (case he => (simp only [go_sem, *] <;> rfl)); (case hu => (simp only [updL_nil, updL_cons] <;> rfl)); (case hl => (simp only [List.map_cons, List.map_nil] <;> rfl)); (case hp => first | trivial | assumption | omega | (simp; done) | (simp; omega) | (simp [*]; done) | ((repeat' (refine And.intro ?_ ?_)) <;> first | trivial | assumption | omega | (simp; done) | (simp; omega) | (simp [*]; done))))
    | (refine sl_nil (And.intro (by first | exact drawOk_of (by decide +kernel) | (simp only [List.map_cons, List.map_nil]; exact drawOk_of (by decide +kernel)) | decide) ?_)))
    all_goals repeat' (first | exact Lower.bool (by first | rfl | (simp only [true_and, Bool.true_and, Bool.false_and, Bool.and_true, Bool.and_false, Bool.true_or, Bool.false_or, reduceIte, Bool.false_eq_true, *]; done) | (simp only [true_and, reduceIte, Bool.false_eq_true, *] <;> rfl) | (simp [true_and]; done) | (simp_all [true_and]; done) | omega))
  rw [hR] at c0
  have hr : fewB p.bays p.stays = true ∧ checkE p.bays p.stays = 0 := by
    unfold rightB at hR
    simpa using hR
  have hbo := ((checkE_iff _ _).1 hr.2).1
  by_cases hz : p.bays.length = 0
  · have dz : ((p.bays.length : Int) == 0) = true := by simp [hz]
    clear hr hbo hR hz
    unfold Pl.av at *
    refine fn_pure Tryd.F4 (Nat.le_of_ble_eq_true rfl) ?_; unfold Tryd.ac4
    repeat' (first
    | (apply Awp.sreg; (case hn => (simp only [List.length_cons, List.length_nil, Nat.reduceAdd] <;> rfl)))
    | (apply Awp.sdraw; (case hn => (simp only [List.length_cons, List.length_nil, Nat.reduceAdd] <;> rfl)))
    | (refine st_nil ?_)
    | (apply st_a; (case hc => rfl); (case he => (simp only [go_sem, *] <;> rfl)); (case hu => (simp only [updL_nil, updL_cons] <;> rfl)); (case hp => first | trivial | assumption | omega | (simp; done) | (simp; omega) | (simp [*]; done) | ((repeat' (refine And.intro ?_ ?_)) <;> first | trivial | assumption | omega | (simp; done) | (simp; omega) | (simp [*]; done))))
    | (apply st_m; (case hc => rfl); (case hg => (simp only [go_sem, *] <;> rfl)); (case he => (intro hQz; (try simp only [wantB_t, wantB_f, Bool.and_eq_true, Bool.not_eq_true', Bool.not_true, Bool.not_false, and_true, true_and] at hQz); simp only [go_sem, *] <;> rfl)); (case hp => (intro hQz; (try simp only [wantB_t, wantB_f, Bool.and_eq_true, Bool.not_eq_true', Bool.or_eq_false_iff, decide_eq_true_eq, decide_eq_false_iff_not, beq_iff_eq, beq_eq_false_iff_ne, bne_iff_ne, bne_eq_false_iff_eq, Int.not_lt, Int.not_le, Int.ofNat_lt, Int.ofNat_le] at hQz); first | trivial | assumption | omega | (simp; done) | (simp; omega) | (simp [*]; done) | ((repeat' (refine And.intro ?_ ?_)) <;> first | trivial | assumption | omega | (simp; done) | (simp; omega) | (simp [*]; done)))))
    | (apply st_c; (case hc => (simp only [go_sem, *] <;> rfl)); (case hl => (simp only [go_sem, *] <;> rfl)); (case hn => (simp only [go_sem, *] <;> rfl)); (case hp => first | exact c0 | (have hXz := c0; simp only [go_sem, *] at hXz; exact hXz)))
    | (apply st_c; (case hc => (simp only [go_sem, *] <;> rfl)); (case hl => (simp only [go_sem, *] <;> rfl)); (case hn => (simp only [go_sem, *] <;> rfl)); (case hp => first | exact awake_ok | (have hXz := awake_ok; simp only [go_sem, *] at hXz; exact hXz)))
    | (apply st_g; (case hv => (simp only [go_sem, *] <;> rfl)); all_goals (intro hg; (try simp only [Bool.not_true, Bool.not_false, reduceCtorEq] at hg)))
    | (refine Awp.ret ?_; try simp only [go_sem, *])
    | (refine Awp.skip ?_; try simp only [go_sem, *])
    | (apply Awp.cond; (case hc => (simp only [go_sem, *] <;> rfl)); all_goals (intro hg; (try simp only [Bool.not_true, Bool.not_false, reduceCtorEq] at hg)))
    | refine Awp.seq ?_
    | (apply sl_a; (case hc => rfl); (case he => (simp only [go_sem, *] <;> rfl)); (case hu => (simp only [updL_nil, updL_cons] <;> rfl)); (case hl => (simp only [List.map_cons, List.map_nil] <;> rfl)); (case hp => first | trivial | assumption | omega | (simp; done) | (simp; omega) | (simp [*]; done) | ((repeat' (refine And.intro ?_ ?_)) <;> first | trivial | assumption | omega | (simp; done) | (simp; omega) | (simp [*]; done))))
    | (refine sl_nil (And.intro (by first | exact drawOk_of (by decide +kernel) | (simp only [List.map_cons, List.map_nil]; exact drawOk_of (by decide +kernel)) | decide) ?_)))
    all_goals repeat' (first | exact Lower.bool (by first | rfl | (simp only [true_and, Bool.true_and, Bool.false_and, Bool.and_true, Bool.and_false, Bool.true_or, Bool.false_or, reduceIte, Bool.false_eq_true, *]; done) | (simp only [true_and, reduceIte, Bool.false_eq_true, *] <;> rfl) | (simp [true_and]; done) | (simp_all [true_and]; done) | omega))
  have hz0 : 0 < p.bays.length := by omega
  have hz' : ((0 : Int)) < p.bays.length := by omega
  have dz : ((p.bays.length : Int) == 0) = false := by rw [beq_eq_false_iff_ne]; omega
  have hat := bys_at p.bays 0 hz0
  have hz3 : ((p.bays.getD 0 zeroBy).cells).length = 3 := rfl
  have cI := risid_big x.item hx
  obtain ⟨q, hq⟩ : ∃ q, p.bays.getD 0 zeroBy = q := ⟨_, rfl⟩
  by_cases g1 : q.len < 128
  · have e1 : decide (q.len < 128) = true := decide_eq_true g1
    rw [hq] at hat hz3
    clear hr hbo hR hz hz0 g1 hq
    unfold Pl.av at *
    refine fn_pure Tryd.F4 (Nat.le_of_ble_eq_true rfl) ?_; unfold Tryd.ac4
    repeat' (first
    | (apply Awp.sreg; (case hn => (simp only [List.length_cons, List.length_nil, Nat.reduceAdd] <;> rfl)))
    | (apply Awp.sdraw; (case hn => (simp only [List.length_cons, List.length_nil, Nat.reduceAdd] <;> rfl)))
    | (refine st_nil ?_)
    | (apply st_a; (case hc => rfl); (case he => (simp only [go_sem, *] <;> rfl)); (case hu => (simp only [updL_nil, updL_cons] <;> rfl)); (case hp => first | trivial | assumption | omega | (simp; done) | (simp; omega) | (simp [*]; done) | ((repeat' (refine And.intro ?_ ?_)) <;> first | trivial | assumption | omega | (simp; done) | (simp; omega) | (simp [*]; done))))
    | (apply st_m; (case hc => rfl); (case hg => (simp only [go_sem, *] <;> rfl)); (case he => (intro hQz; (try simp only [wantB_t, wantB_f, Bool.and_eq_true, Bool.not_eq_true', Bool.not_true, Bool.not_false, and_true, true_and] at hQz); simp only [go_sem, *] <;> rfl)); (case hp => (intro hQz; (try simp only [wantB_t, wantB_f, Bool.and_eq_true, Bool.not_eq_true', Bool.or_eq_false_iff, decide_eq_true_eq, decide_eq_false_iff_not, beq_iff_eq, beq_eq_false_iff_ne, bne_iff_ne, bne_eq_false_iff_eq, Int.not_lt, Int.not_le, Int.ofNat_lt, Int.ofNat_le] at hQz); first | trivial | assumption | omega | (simp; done) | (simp; omega) | (simp [*]; done) | ((repeat' (refine And.intro ?_ ?_)) <;> first | trivial | assumption | omega | (simp; done) | (simp; omega) | (simp [*]; done)))))
    | (apply st_c; (case hc => (simp only [go_sem, *] <;> rfl)); (case hl => (simp only [go_sem, *] <;> rfl)); (case hn => (simp only [go_sem, *] <;> rfl)); (case hp => first | exact c0 | (have hXz := c0; simp only [go_sem, *] at hXz; exact hXz)))
    | (apply st_c; (case hc => (simp only [go_sem, *] <;> rfl)); (case hl => (simp only [go_sem, *] <;> rfl)); (case hn => (simp only [go_sem, *] <;> rfl)); (case hp => first | exact awake_ok | (have hXz := awake_ok; simp only [go_sem, *] at hXz; exact hXz)))
    | (apply st_g; (case hv => (simp only [go_sem, *] <;> rfl)); all_goals (intro hg; (try simp only [Bool.not_true, Bool.not_false, reduceCtorEq] at hg)))
    | (refine Awp.ret ?_; try simp only [go_sem, *])
    | (refine Awp.skip ?_; try simp only [go_sem, *])
    | (apply Awp.cond; (case hc => (simp only [go_sem, *] <;> rfl)); all_goals (intro hg; (try simp only [Bool.not_true, Bool.not_false, reduceCtorEq] at hg)))
    | refine Awp.seq ?_
    | (apply sl_a; (case hc => rfl); (case he => (simp only [go_sem, *] <;> rfl)); (case hu => (simp only [updL_nil, updL_cons] <;> rfl)); (case hl => (simp only [List.map_cons, List.map_nil] <;> rfl)); (case hp => first | trivial | assumption | omega | (simp; done) | (simp; omega) | (simp [*]; done) | ((repeat' (refine And.intro ?_ ?_)) <;> first | trivial | assumption | omega | (simp; done) | (simp; omega) | (simp [*]; done))))
    | (refine sl_nil (And.intro (by first | exact drawOk_of (by decide +kernel) | (simp only [List.map_cons, List.map_nil]; exact drawOk_of (by decide +kernel)) | decide) ?_)))
    all_goals repeat' (first | exact Lower.bool (by first | rfl | (simp only [true_and, Bool.true_and, Bool.false_and, Bool.and_true, Bool.and_false, Bool.true_or, Bool.false_or, reduceIte, Bool.false_eq_true, *]; done) | (simp only [true_and, reduceIte, Bool.false_eq_true, *] <;> rfl) | (simp [true_and]; done) | (simp_all [true_and]; done) | omega))
  have e1 : decide (q.len < 128) = false := decide_eq_false g1
  cases gi : idB x.item
  · rw [gi] at cI
    rw [hq] at hat hz3
    clear hr hbo hR hz hz0 g1 hq gi
    unfold Pl.av at *
    refine fn_pure Tryd.F4 (Nat.le_of_ble_eq_true rfl) ?_; unfold Tryd.ac4
    repeat' (first
    | (apply Awp.sreg; (case hn => (simp only [List.length_cons, List.length_nil, Nat.reduceAdd] <;> rfl)))
    | (apply Awp.sdraw; (case hn => (simp only [List.length_cons, List.length_nil, Nat.reduceAdd] <;> rfl)))
    | (refine st_nil ?_)
    | (apply st_a; (case hc => rfl); (case he => (simp only [go_sem, *] <;> rfl)); (case hu => (simp only [updL_nil, updL_cons] <;> rfl)); (case hp => first | trivial | assumption | omega | (simp; done) | (simp; omega) | (simp [*]; done) | ((repeat' (refine And.intro ?_ ?_)) <;> first | trivial | assumption | omega | (simp; done) | (simp; omega) | (simp [*]; done))))
    | (apply st_m; (case hc => rfl); (case hg => (simp only [go_sem, *] <;> rfl)); (case he => (intro hQz; (try simp only [wantB_t, wantB_f, Bool.and_eq_true, Bool.not_eq_true', Bool.not_true, Bool.not_false, and_true, true_and] at hQz); simp only [go_sem, *] <;> rfl)); (case hp => (intro hQz; (try simp only [wantB_t, wantB_f, Bool.and_eq_true, Bool.not_eq_true', Bool.or_eq_false_iff, decide_eq_true_eq, decide_eq_false_iff_not, beq_iff_eq, beq_eq_false_iff_ne, bne_iff_ne, bne_eq_false_iff_eq, Int.not_lt, Int.not_le, Int.ofNat_lt, Int.ofNat_le] at hQz); first | trivial | assumption | omega | (simp; done) | (simp; omega) | (simp [*]; done) | ((repeat' (refine And.intro ?_ ?_)) <;> first | trivial | assumption | omega | (simp; done) | (simp; omega) | (simp [*]; done)))))
    | (apply st_c; (case hc => (simp only [go_sem, *] <;> rfl)); (case hl => (simp only [go_sem, *] <;> rfl)); (case hn => (simp only [go_sem, *] <;> rfl)); (case hp => first | exact c0 | (have hXz := c0; simp only [go_sem, *] at hXz; exact hXz)))
    | (apply st_mc; (case hop => rfl); (case hg => (simp only [go_sem, *] <;> rfl)); (case hc => (intro hQz; (try simp only [wantB_t, wantB_f, Bool.and_eq_true, Bool.not_eq_true', Bool.not_true, Bool.not_false, and_true, true_and] at hQz); simp only [go_sem, *] <;> rfl)); (case hl => (intro hQz; (try simp only [wantB_t, wantB_f, Bool.and_eq_true, Bool.not_eq_true', Bool.not_true, Bool.not_false, and_true, true_and] at hQz); simp only [go_sem, *] <;> rfl)); (case hn => (intro hQz; (try simp only [wantB_t, wantB_f, Bool.and_eq_true, Bool.not_eq_true', Bool.not_true, Bool.not_false, and_true, true_and] at hQz); simp only [go_sem, *] <;> rfl)); (case hp => intro hQz; first | exact cI | (have hXz := cI; simp only [go_sem, *] at hXz; exact hXz)))
    | (apply st_c; (case hc => (simp only [go_sem, *] <;> rfl)); (case hl => (simp only [go_sem, *] <;> rfl)); (case hn => (simp only [go_sem, *] <;> rfl)); (case hp => first | exact awake_ok | (have hXz := awake_ok; simp only [go_sem, *] at hXz; exact hXz)))
    | (refine Awp.ret ?_; try simp only [go_sem, *])
    | (refine Awp.skip ?_; try simp only [go_sem, *])
    | (apply Awp.cond; (case hc => (simp only [go_sem, *] <;> rfl)); all_goals (intro hg; (try simp only [Bool.not_true, Bool.not_false, reduceCtorEq] at hg)))
    | refine Awp.seq ?_
    | (apply sl_a; (case hc => rfl); (case he => (simp only [go_sem, *] <;> rfl)); (case hu => (simp only [updL_nil, updL_cons] <;> rfl)); (case hl => (simp only [List.map_cons, List.map_nil] <;> rfl)); (case hp => first | trivial | assumption | omega | (simp; done) | (simp; omega) | (simp [*]; done) | ((repeat' (refine And.intro ?_ ?_)) <;> first | trivial | assumption | omega | (simp; done) | (simp; omega) | (simp [*]; done))))
    | (refine sl_nil (And.intro (by first | exact drawOk_of (by decide +kernel) | (simp only [List.map_cons, List.map_nil]; exact drawOk_of (by decide +kernel)) | decide) ?_)))
    all_goals repeat' (first | exact Lower.bool (by first | rfl | (simp only [true_and, Bool.true_and, Bool.false_and, Bool.and_true, Bool.and_false, Bool.true_or, Bool.false_or, reduceIte, Bool.false_eq_true, *]; done) | (simp only [true_and, reduceIte, Bool.false_eq_true, *] <;> rfl) | (simp [true_and]; done) | (simp_all [true_and]; done) | omega))
  rw [gi] at cI
  by_cases g2 : x.len = 1
  case neg =>
    have e2 : (x.len != 1) = true := by simpa using g2
    rw [hq] at hat hz3
    clear hr hbo hR hz hz0 g1 hq gi g2
    unfold Pl.av at *
    refine fn_pure Tryd.F4 (Nat.le_of_ble_eq_true rfl) ?_; unfold Tryd.ac4
    repeat' (first
    | (apply Awp.sreg; (case hn => (simp only [List.length_cons, List.length_nil, Nat.reduceAdd] <;> rfl)))
    | (apply Awp.sdraw; (case hn => (simp only [List.length_cons, List.length_nil, Nat.reduceAdd] <;> rfl)))
    | (refine st_nil ?_)
    | (apply st_a; (case hc => rfl); (case he => (simp only [go_sem, *] <;> rfl)); (case hu => (simp only [updL_nil, updL_cons] <;> rfl)); (case hp => first | trivial | assumption | omega | (simp; done) | (simp; omega) | (simp [*]; done) | ((repeat' (refine And.intro ?_ ?_)) <;> first | trivial | assumption | omega | (simp; done) | (simp; omega) | (simp [*]; done))))
    | (apply st_m; (case hc => rfl); (case hg => (simp only [go_sem, *] <;> rfl)); (case he => (intro hQz; (try simp only [wantB_t, wantB_f, Bool.and_eq_true, Bool.not_eq_true', Bool.not_true, Bool.not_false, and_true, true_and] at hQz); simp only [go_sem, *] <;> rfl)); (case hp => (intro hQz; (try simp only [wantB_t, wantB_f, Bool.and_eq_true, Bool.not_eq_true', Bool.or_eq_false_iff, decide_eq_true_eq, decide_eq_false_iff_not, beq_iff_eq, beq_eq_false_iff_ne, bne_iff_ne, bne_eq_false_iff_eq, Int.not_lt, Int.not_le, Int.ofNat_lt, Int.ofNat_le] at hQz); first | trivial | assumption | omega | (simp; done) | (simp; omega) | (simp [*]; done) | ((repeat' (refine And.intro ?_ ?_)) <;> first | trivial | assumption | omega | (simp; done) | (simp; omega) | (simp [*]; done)))))
    | (apply st_c; (case hc => (simp only [go_sem, *] <;> rfl)); (case hl => (simp only [go_sem, *] <;> rfl)); (case hn => (simp only [go_sem, *] <;> rfl)); (case hp => first | exact c0 | (have hXz := c0; simp only [go_sem, *] at hXz; exact hXz)))
    | (apply st_mc; (case hop => rfl); (case hg => (simp only [go_sem, *] <;> rfl)); (case hc => (intro hQz; (try simp only [wantB_t, wantB_f, Bool.and_eq_true, Bool.not_eq_true', Bool.not_true, Bool.not_false, and_true, true_and] at hQz); simp only [go_sem, *] <;> rfl)); (case hl => (intro hQz; (try simp only [wantB_t, wantB_f, Bool.and_eq_true, Bool.not_eq_true', Bool.not_true, Bool.not_false, and_true, true_and] at hQz); simp only [go_sem, *] <;> rfl)); (case hn => (intro hQz; (try simp only [wantB_t, wantB_f, Bool.and_eq_true, Bool.not_eq_true', Bool.not_true, Bool.not_false, and_true, true_and] at hQz); simp only [go_sem, *] <;> rfl)); (case hp => intro hQz; first | exact cI | (have hXz := cI; simp only [go_sem, *] at hXz; exact hXz)))
    | (apply st_c; (case hc => (simp only [go_sem, *] <;> rfl)); (case hl => (simp only [go_sem, *] <;> rfl)); (case hn => (simp only [go_sem, *] <;> rfl)); (case hp => first | exact awake_ok | (have hXz := awake_ok; simp only [go_sem, *] at hXz; exact hXz)))
    | (refine Awp.ret ?_; try simp only [go_sem, *])
    | (refine Awp.skip ?_; try simp only [go_sem, *])
    | (apply Awp.cond; (case hc => (simp only [go_sem, *] <;> rfl)); all_goals (intro hg; (try simp only [Bool.not_true, Bool.not_false, reduceCtorEq] at hg)))
    | refine Awp.seq ?_
    | (apply sl_a; (case hc => rfl); (case he => (simp only [go_sem, *] <;> rfl)); (case hu => (simp only [updL_nil, updL_cons] <;> rfl)); (case hl => (simp only [List.map_cons, List.map_nil] <;> rfl)); (case hp => first | trivial | assumption | omega | (simp; done) | (simp; omega) | (simp [*]; done) | ((repeat' (refine And.intro ?_ ?_)) <;> first | trivial | assumption | omega | (simp; done) | (simp; omega) | (simp [*]; done))))
    | (refine sl_nil (And.intro (by first | exact drawOk_of (by decide +kernel) | (simp only [List.map_cons, List.map_nil]; exact drawOk_of (by decide +kernel)) | decide) ?_)))
    all_goals repeat' (first | exact Lower.bool (by first | rfl | (simp only [true_and, Bool.true_and, Bool.false_and, Bool.and_true, Bool.and_false, Bool.true_or, Bool.false_or, reduceIte, Bool.false_eq_true, *]; done) | (simp only [true_and, reduceIte, Bool.false_eq_true, *] <;> rfl) | (simp [true_and]; done) | (simp_all [true_and]; done) | omega))
  have e2 : (x.len != 1) = false := by simpa using g2
  by_cases g3 : x.wid = 1
  case neg =>
    have e3 : (x.wid != 1) = true := by simpa using g3
    rw [hq] at hat hz3
    clear hr hbo hR hz hz0 g1 hq gi g2 g3
    unfold Pl.av at *
    refine fn_pure Tryd.F4 (Nat.le_of_ble_eq_true rfl) ?_; unfold Tryd.ac4
    repeat' (first
    | (apply Awp.sreg; (case hn => (simp only [List.length_cons, List.length_nil, Nat.reduceAdd] <;> rfl)))
    | (apply Awp.sdraw; (case hn => (simp only [List.length_cons, List.length_nil, Nat.reduceAdd] <;> rfl)))
    | (refine st_nil ?_)
    | (apply st_a; (case hc => rfl); (case he => (simp only [go_sem, *] <;> rfl)); (case hu => (simp only [updL_nil, updL_cons] <;> rfl)); (case hp => first | trivial | assumption | omega | (simp; done) | (simp; omega) | (simp [*]; done) | ((repeat' (refine And.intro ?_ ?_)) <;> first | trivial | assumption | omega | (simp; done) | (simp; omega) | (simp [*]; done))))
    | (apply st_m; (case hc => rfl); (case hg => (simp only [go_sem, *] <;> rfl)); (case he => (intro hQz; (try simp only [wantB_t, wantB_f, Bool.and_eq_true, Bool.not_eq_true', Bool.not_true, Bool.not_false, and_true, true_and] at hQz); simp only [go_sem, *] <;> rfl)); (case hp => (intro hQz; (try simp only [wantB_t, wantB_f, Bool.and_eq_true, Bool.not_eq_true', Bool.or_eq_false_iff, decide_eq_true_eq, decide_eq_false_iff_not, beq_iff_eq, beq_eq_false_iff_ne, bne_iff_ne, bne_eq_false_iff_eq, Int.not_lt, Int.not_le, Int.ofNat_lt, Int.ofNat_le] at hQz); first | trivial | assumption | omega | (simp; done) | (simp; omega) | (simp [*]; done) | ((repeat' (refine And.intro ?_ ?_)) <;> first | trivial | assumption | omega | (simp; done) | (simp; omega) | (simp [*]; done)))))
    | (apply st_c; (case hc => (simp only [go_sem, *] <;> rfl)); (case hl => (simp only [go_sem, *] <;> rfl)); (case hn => (simp only [go_sem, *] <;> rfl)); (case hp => first | exact c0 | (have hXz := c0; simp only [go_sem, *] at hXz; exact hXz)))
    | (apply st_mc; (case hop => rfl); (case hg => (simp only [go_sem, *] <;> rfl)); (case hc => (intro hQz; (try simp only [wantB_t, wantB_f, Bool.and_eq_true, Bool.not_eq_true', Bool.not_true, Bool.not_false, and_true, true_and] at hQz); simp only [go_sem, *] <;> rfl)); (case hl => (intro hQz; (try simp only [wantB_t, wantB_f, Bool.and_eq_true, Bool.not_eq_true', Bool.not_true, Bool.not_false, and_true, true_and] at hQz); simp only [go_sem, *] <;> rfl)); (case hn => (intro hQz; (try simp only [wantB_t, wantB_f, Bool.and_eq_true, Bool.not_eq_true', Bool.not_true, Bool.not_false, and_true, true_and] at hQz); simp only [go_sem, *] <;> rfl)); (case hp => intro hQz; first | exact cI | (have hXz := cI; simp only [go_sem, *] at hXz; exact hXz)))
    | (apply st_c; (case hc => (simp only [go_sem, *] <;> rfl)); (case hl => (simp only [go_sem, *] <;> rfl)); (case hn => (simp only [go_sem, *] <;> rfl)); (case hp => first | exact awake_ok | (have hXz := awake_ok; simp only [go_sem, *] at hXz; exact hXz)))
    | (refine Awp.ret ?_; try simp only [go_sem, *])
    | (refine Awp.skip ?_; try simp only [go_sem, *])
    | (apply Awp.cond; (case hc => (simp only [go_sem, *] <;> rfl)); all_goals (intro hg; (try simp only [Bool.not_true, Bool.not_false, reduceCtorEq] at hg)))
    | refine Awp.seq ?_
    | (apply sl_a; (case hc => rfl); (case he => (simp only [go_sem, *] <;> rfl)); (case hu => (simp only [updL_nil, updL_cons] <;> rfl)); (case hl => (simp only [List.map_cons, List.map_nil] <;> rfl)); (case hp => first | trivial | assumption | omega | (simp; done) | (simp; omega) | (simp [*]; done) | ((repeat' (refine And.intro ?_ ?_)) <;> first | trivial | assumption | omega | (simp; done) | (simp; omega) | (simp [*]; done))))
    | (refine sl_nil (And.intro (by first | exact drawOk_of (by decide +kernel) | (simp only [List.map_cons, List.map_nil]; exact drawOk_of (by decide +kernel)) | decide) ?_)))
    all_goals repeat' (first | exact Lower.bool (by first | rfl | (simp only [true_and, Bool.true_and, Bool.false_and, Bool.and_true, Bool.and_false, Bool.true_or, Bool.false_or, reduceIte, Bool.false_eq_true, *]; done) | (simp only [true_and, reduceIte, Bool.false_eq_true, *] <;> rfl) | (simp [true_and]; done) | (simp_all [true_and]; done) | omega))
  have e3 : (x.wid != 1) = false := by simpa using g3
  by_cases g4 : x.a < 0
  · have e4 : decide (x.a < 0) = true := decide_eq_true g4
    rw [hq] at hat hz3
    clear hr hbo hR hz hz0 g1 hq gi g2 g3 g4
    unfold Pl.av at *
    refine fn_pure Tryd.F4 (Nat.le_of_ble_eq_true rfl) ?_; unfold Tryd.ac4
    repeat' (first
    | (apply Awp.sreg; (case hn => (simp only [List.length_cons, List.length_nil, Nat.reduceAdd] <;> rfl)))
    | (apply Awp.sdraw; (case hn => (simp only [List.length_cons, List.length_nil, Nat.reduceAdd] <;> rfl)))
    | (refine st_nil ?_)
    | (apply st_a; (case hc => rfl); (case he => (simp only [go_sem, *] <;> rfl)); (case hu => (simp only [updL_nil, updL_cons] <;> rfl)); (case hp => first | trivial | assumption | omega | (simp; done) | (simp; omega) | (simp [*]; done) | ((repeat' (refine And.intro ?_ ?_)) <;> first | trivial | assumption | omega | (simp; done) | (simp; omega) | (simp [*]; done))))
    | (apply st_m; (case hc => rfl); (case hg => (simp only [go_sem, *] <;> rfl)); (case he => (intro hQz; (try simp only [wantB_t, wantB_f, Bool.and_eq_true, Bool.not_eq_true', Bool.not_true, Bool.not_false, and_true, true_and] at hQz); simp only [go_sem, *] <;> rfl)); (case hp => (intro hQz; (try simp only [wantB_t, wantB_f, Bool.and_eq_true, Bool.not_eq_true', Bool.or_eq_false_iff, decide_eq_true_eq, decide_eq_false_iff_not, beq_iff_eq, beq_eq_false_iff_ne, bne_iff_ne, bne_eq_false_iff_eq, Int.not_lt, Int.not_le, Int.ofNat_lt, Int.ofNat_le] at hQz); first | trivial | assumption | omega | (simp; done) | (simp; omega) | (simp [*]; done) | ((repeat' (refine And.intro ?_ ?_)) <;> first | trivial | assumption | omega | (simp; done) | (simp; omega) | (simp [*]; done)))))
    | (apply st_c; (case hc => (simp only [go_sem, *] <;> rfl)); (case hl => (simp only [go_sem, *] <;> rfl)); (case hn => (simp only [go_sem, *] <;> rfl)); (case hp => first | exact c0 | (have hXz := c0; simp only [go_sem, *] at hXz; exact hXz)))
    | (apply st_mc; (case hop => rfl); (case hg => (simp only [go_sem, *] <;> rfl)); (case hc => (intro hQz; (try simp only [wantB_t, wantB_f, Bool.and_eq_true, Bool.not_eq_true', Bool.not_true, Bool.not_false, and_true, true_and] at hQz); simp only [go_sem, *] <;> rfl)); (case hl => (intro hQz; (try simp only [wantB_t, wantB_f, Bool.and_eq_true, Bool.not_eq_true', Bool.not_true, Bool.not_false, and_true, true_and] at hQz); simp only [go_sem, *] <;> rfl)); (case hn => (intro hQz; (try simp only [wantB_t, wantB_f, Bool.and_eq_true, Bool.not_eq_true', Bool.not_true, Bool.not_false, and_true, true_and] at hQz); simp only [go_sem, *] <;> rfl)); (case hp => intro hQz; first | exact cI | (have hXz := cI; simp only [go_sem, *] at hXz; exact hXz)))
    | (apply st_c; (case hc => (simp only [go_sem, *] <;> rfl)); (case hl => (simp only [go_sem, *] <;> rfl)); (case hn => (simp only [go_sem, *] <;> rfl)); (case hp => first | exact awake_ok | (have hXz := awake_ok; simp only [go_sem, *] at hXz; exact hXz)))
    | (refine Awp.ret ?_; try simp only [go_sem, *])
    | (refine Awp.skip ?_; try simp only [go_sem, *])
    | (apply Awp.cond; (case hc => (simp only [go_sem, *] <;> rfl)); all_goals (intro hg; (try simp only [Bool.not_true, Bool.not_false, reduceCtorEq] at hg)))
    | refine Awp.seq ?_
    | (apply sl_a; (case hc => rfl); (case he => (simp only [go_sem, *] <;> rfl)); (case hu => (simp only [updL_nil, updL_cons] <;> rfl)); (case hl => (simp only [List.map_cons, List.map_nil] <;> rfl)); (case hp => first | trivial | assumption | omega | (simp; done) | (simp; omega) | (simp [*]; done) | ((repeat' (refine And.intro ?_ ?_)) <;> first | trivial | assumption | omega | (simp; done) | (simp; omega) | (simp [*]; done))))
    | (refine sl_nil (And.intro (by first | exact drawOk_of (by decide +kernel) | (simp only [List.map_cons, List.map_nil]; exact drawOk_of (by decide +kernel)) | decide) ?_)))
    all_goals repeat' (first | exact Lower.bool (by first | rfl | (simp only [true_and, Bool.true_and, Bool.false_and, Bool.and_true, Bool.and_false, Bool.true_or, Bool.false_or, reduceIte, Bool.false_eq_true, *]; done) | (simp only [true_and, reduceIte, Bool.false_eq_true, *] <;> rfl) | (simp [true_and]; done) | (simp_all [true_and]; done) | omega))
  have e4 : decide (x.a < 0) = false := decide_eq_false g4
  by_cases g5 : 1048576 < x.a
  · have e5 : decide ((1048576 : Int) < x.a) = true := decide_eq_true g5
    rw [hq] at hat hz3
    clear hr hbo hR hz hz0 g1 hq gi g2 g3 g4 g5
    unfold Pl.av at *
    refine fn_pure Tryd.F4 (Nat.le_of_ble_eq_true rfl) ?_; unfold Tryd.ac4
    repeat' (first
    | (apply Awp.sreg; (case hn => (simp only [List.length_cons, List.length_nil, Nat.reduceAdd] <;> rfl)))
    | (apply Awp.sdraw; (case hn => (simp only [List.length_cons, List.length_nil, Nat.reduceAdd] <;> rfl)))
    | (refine st_nil ?_)
    | (apply st_a; (case hc => rfl); (case he => (simp only [go_sem, *] <;> rfl)); (case hu => (simp only [updL_nil, updL_cons] <;> rfl)); (case hp => first | trivial | assumption | omega | (simp; done) | (simp; omega) | (simp [*]; done) | ((repeat' (refine And.intro ?_ ?_)) <;> first | trivial | assumption | omega | (simp; done) | (simp; omega) | (simp [*]; done))))
    | (apply st_m; (case hc => rfl); (case hg => (simp only [go_sem, *] <;> rfl)); (case he => (intro hQz; (try simp only [wantB_t, wantB_f, Bool.and_eq_true, Bool.not_eq_true', Bool.not_true, Bool.not_false, and_true, true_and] at hQz); simp only [go_sem, *] <;> rfl)); (case hp => (intro hQz; (try simp only [wantB_t, wantB_f, Bool.and_eq_true, Bool.not_eq_true', Bool.or_eq_false_iff, decide_eq_true_eq, decide_eq_false_iff_not, beq_iff_eq, beq_eq_false_iff_ne, bne_iff_ne, bne_eq_false_iff_eq, Int.not_lt, Int.not_le, Int.ofNat_lt, Int.ofNat_le] at hQz); first | trivial | assumption | omega | (simp; done) | (simp; omega) | (simp [*]; done) | ((repeat' (refine And.intro ?_ ?_)) <;> first | trivial | assumption | omega | (simp; done) | (simp; omega) | (simp [*]; done)))))
    | (apply st_c; (case hc => (simp only [go_sem, *] <;> rfl)); (case hl => (simp only [go_sem, *] <;> rfl)); (case hn => (simp only [go_sem, *] <;> rfl)); (case hp => first | exact c0 | (have hXz := c0; simp only [go_sem, *] at hXz; exact hXz)))
    | (apply st_mc; (case hop => rfl); (case hg => (simp only [go_sem, *] <;> rfl)); (case hc => (intro hQz; (try simp only [wantB_t, wantB_f, Bool.and_eq_true, Bool.not_eq_true', Bool.not_true, Bool.not_false, and_true, true_and] at hQz); simp only [go_sem, *] <;> rfl)); (case hl => (intro hQz; (try simp only [wantB_t, wantB_f, Bool.and_eq_true, Bool.not_eq_true', Bool.not_true, Bool.not_false, and_true, true_and] at hQz); simp only [go_sem, *] <;> rfl)); (case hn => (intro hQz; (try simp only [wantB_t, wantB_f, Bool.and_eq_true, Bool.not_eq_true', Bool.not_true, Bool.not_false, and_true, true_and] at hQz); simp only [go_sem, *] <;> rfl)); (case hp => intro hQz; first | exact cI | (have hXz := cI; simp only [go_sem, *] at hXz; exact hXz)))
    | (apply st_c; (case hc => (simp only [go_sem, *] <;> rfl)); (case hl => (simp only [go_sem, *] <;> rfl)); (case hn => (simp only [go_sem, *] <;> rfl)); (case hp => first | exact awake_ok | (have hXz := awake_ok; simp only [go_sem, *] at hXz; exact hXz)))
    | (refine Awp.ret ?_; try simp only [go_sem, *])
    | (refine Awp.skip ?_; try simp only [go_sem, *])
    | (apply Awp.cond; (case hc => (simp only [go_sem, *] <;> rfl)); all_goals (intro hg; (try simp only [Bool.not_true, Bool.not_false, reduceCtorEq] at hg)))
    | refine Awp.seq ?_
    | (apply sl_a; (case hc => rfl); (case he => (simp only [go_sem, *] <;> rfl)); (case hu => (simp only [updL_nil, updL_cons] <;> rfl)); (case hl => (simp only [List.map_cons, List.map_nil] <;> rfl)); (case hp => first | trivial | assumption | omega | (simp; done) | (simp; omega) | (simp [*]; done) | ((repeat' (refine And.intro ?_ ?_)) <;> first | trivial | assumption | omega | (simp; done) | (simp; omega) | (simp [*]; done))))
    | (refine sl_nil (And.intro (by first | exact drawOk_of (by decide +kernel) | (simp only [List.map_cons, List.map_nil]; exact drawOk_of (by decide +kernel)) | decide) ?_)))
    all_goals repeat' (first | exact Lower.bool (by first | rfl | (simp only [true_and, Bool.true_and, Bool.false_and, Bool.and_true, Bool.and_false, Bool.true_or, Bool.false_or, reduceIte, Bool.false_eq_true, *]; done) | (simp only [true_and, reduceIte, Bool.false_eq_true, *] <;> rfl) | (simp [true_and]; done) | (simp_all [true_and]; done) | omega))
  have e5 : decide ((1048576 : Int) < x.a) = false := decide_eq_false g5
  have hF := long_full (bs := p.bays) (x := x) hbo hz0 (by rw [hq]; omega) gi g2 g3 (by omega) (by omega)
  have hG := long_rest (bs := p.bays) (x := x) hbo hz0 (by rw [hq]; omega) gi g2 g3 (by omega) (by omega)
  rw [hq] at hF hG hat hz3
  have hb9 : p.bays.length < 90000 := by have := hbo.1; omega
  clear hr hbo hR g1 hq gi g2 g3 g4 g5
  unfold Pl.av at *
  refine fn_pure Tryd.F4 (Nat.le_of_ble_eq_true rfl) ?_; unfold Tryd.ac4
  repeat' (first
    | (apply Awp.sreg; (case hn => (simp only [List.length_cons, List.length_nil, Nat.reduceAdd] <;> rfl)))
    | (apply Awp.sdraw; (case hn => (simp only [List.length_cons, List.length_nil, Nat.reduceAdd] <;> rfl)))
    | (refine st_nil ?_)
    | (apply st_a; (case hc => rfl); (case he => (simp only [go_sem, *] <;> rfl)); (case hu => (simp only [updL_nil, updL_cons] <;> rfl)); (case hp => first | trivial | assumption | omega | (simp; done) | (simp; omega) | (simp [*]; done) | ((repeat' (refine And.intro ?_ ?_)) <;> first | trivial | assumption | omega | (simp; done) | (simp; omega) | (simp [*]; done))))
    | (apply st_m; (case hc => rfl); (case hg => (simp only [go_sem, *] <;> rfl)); (case he => (intro hQz; (try simp only [wantB_t, wantB_f, Bool.and_eq_true, Bool.not_eq_true', Bool.not_true, Bool.not_false, and_true, true_and] at hQz); simp only [go_sem, *] <;> rfl)); (case hp => (intro hQz; (try simp only [wantB_t, wantB_f, Bool.and_eq_true, Bool.not_eq_true', Bool.or_eq_false_iff, decide_eq_true_eq, decide_eq_false_iff_not, beq_iff_eq, beq_eq_false_iff_ne, bne_iff_ne, bne_eq_false_iff_eq, Int.not_lt, Int.not_le, Int.ofNat_lt, Int.ofNat_le] at hQz); first | trivial | assumption | omega | (simp; done) | (simp; omega) | (simp [*]; done) | ((repeat' (refine And.intro ?_ ?_)) <;> first | trivial | assumption | omega | (simp; done) | (simp; omega) | (simp [*]; done)))))
    | (apply st_c; (case hc => (simp only [go_sem, *] <;> rfl)); (case hl => (simp only [go_sem, *] <;> rfl)); (case hn => (simp only [go_sem, *] <;> rfl)); (case hp => first | exact c0 | (have hXz := c0; simp only [go_sem, *] at hXz; exact hXz)))
    | (apply st_mc; (case hop => rfl); (case hg => (simp only [go_sem, *] <;> rfl)); (case hc => (intro hQz; (try simp only [wantB_t, wantB_f, Bool.and_eq_true, Bool.not_eq_true', Bool.not_true, Bool.not_false, and_true, true_and] at hQz); simp only [go_sem, *] <;> rfl)); (case hl => (intro hQz; (try simp only [wantB_t, wantB_f, Bool.and_eq_true, Bool.not_eq_true', Bool.not_true, Bool.not_false, and_true, true_and] at hQz); simp only [go_sem, *] <;> rfl)); (case hn => (intro hQz; (try simp only [wantB_t, wantB_f, Bool.and_eq_true, Bool.not_eq_true', Bool.not_true, Bool.not_false, and_true, true_and] at hQz); simp only [go_sem, *] <;> rfl)); (case hp => intro hQz; first | exact cI | (have hXz := cI; simp only [go_sem, *] at hXz; exact hXz)))
    | (refine Awp.skip ?_; try simp only [go_sem, *])
    | refine Awp.block ?_
    | (apply Awp.cond; (case hc => (simp only [go_sem, *] <;> rfl)); all_goals (intro hg; (try simp only [Bool.not_true, Bool.not_false, reduceCtorEq] at hg)))
    | refine Awp.seq ?_
    | (apply sl_a; (case hc => rfl); (case he => (simp only [go_sem, *] <;> rfl)); (case hu => (simp only [updL_nil, updL_cons] <;> rfl)); (case hl => (simp only [List.map_cons, List.map_nil] <;> rfl)); (case hp => first | trivial | assumption | omega | (simp; done) | (simp; omega) | (simp [*]; done) | ((repeat' (refine And.intro ?_ ?_)) <;> first | trivial | assumption | omega | (simp; done) | (simp; omega) | (simp [*]; done))))
    | (refine sl_nil (And.intro (by first | exact drawOk_of (by decide +kernel) | (simp only [List.map_cons, List.map_nil]; exact drawOk_of (by decide +kernel)) | decide) ?_)))
  clear c0 cI zb zs lb ls s1 w0 w1 t1 t2 hn hm d1 d2 e1 e2 e3 e4 e5 dz
  refine Awp.loop (fun i : Nat => i ≤ 128) 200 (fun i => lgS p x (fullL q.nm i) i) (fun i => 128 - i) 0 (by omega) ?_ ?_
  · refine Ghost.trans (Ghost.name 9 8 31 rfl (by decide)) ?_
    have e0 : fullL q.nm 0 = [] := rfl
    rw [e0]
    unfold lgS
    (apply Ghost.mk [(1, 2), (2, 71)] []; (case hdead => rfl); (case hinj => rfl); (case hV => (simp only [go_sem, *]) <;> (repeat' (first | refine And.intro ?_ ?_ | exact View.int (by first | rfl | omega | (simp; done) | (rw [wrap_i64] <;> (try simp only [Int.natCast_add]) <;> omega) | (simp [*]; done)) | exact .bp rfl (by decide) | exact .own rfl (by decide)))); (case hB => (simp only [go_sem, *]) <;> (repeat' (first | refine And.intro ?_ ?_ | exact ⟨_, rfl, BView.boxF rfl⟩ | exact ⟨_, rfl, .rowE (by first | rfl | omega | (simp; done) | (rw [wrap_i64] <;> (try simp only [Int.natCast_add]) <;> omega) | (simp [*]; done))⟩))))
  · intro i hi
    by_cases hlt : i < 128
    · have hlt' : decide ((i : Int) < 128) = true := decide_eq_true (by omega)
      have hst : Kept _ := fullL_step q.nm i
      have hLl := fullL_len q.nm i
      generalize fullL q.nm i = L at *
      have es := stys_snoc L (fullAt q.nm i)
      have eo := stys_one L
      have el := stys_len L
      unfold fullAt sI at es
      dsimp only at es
      clear hF hG
      unfold lgS
      repeat' (first
    | (apply Awp.sreg; (case hn => (simp only [List.length_cons, List.length_nil, Nat.reduceAdd] <;> rfl)))
    | (refine st_nil ?_)
    | (apply st_a; (case hc => rfl); (case he => (simp only [go_sem, *] <;> rfl)); (case hu => (simp only [updL_nil, updL_cons] <;> rfl)); (case hp => first | trivial | assumption | omega | (simp; done) | (simp; omega) | (simp [*]; done) | ((repeat' (refine And.intro ?_ ?_)) <;> first | trivial | assumption | omega | (simp; done) | (simp; omega) | (simp [*]; done))))
    | (apply Awp.reg; (case hn => (simp only [List.length_cons, List.length_nil, Nat.reduceAdd] <;> rfl)))
    | (refine Awp.skip ?_; try simp only [go_sem, *])
    | refine Awp.block ?_
    | (apply Awp.cond; (case hc => (simp only [go_sem, *] <;> rfl)); all_goals (intro hg; (try simp only [Bool.not_true, Bool.not_false, reduceCtorEq] at hg)))
    | refine Awp.seq ?_)
      refine ⟨i + 1, by omega, by omega, ?_⟩
      rw [hst.out]
      unfold fullAt sI
      (apply Ghost.mk [(2, 213)] []; (case hdead => rfl); (case hinj => rfl); (case hV => (simp only [go_sem, *]) <;> (repeat' (first | refine And.intro ?_ ?_ | exact View.int (by first | rfl | omega | (simp; done) | (rw [wrap_i64] <;> (try simp only [Int.natCast_add]) <;> omega) | (simp [*]; done)) | exact .bp rfl (by decide) | exact .own rfl (by decide)))); (case hB => (simp only [go_sem, *]) <;> (repeat' (first | refine And.intro ?_ ?_ | exact ⟨_, rfl, BView.boxF rfl⟩ | exact ⟨_, rfl, .rowE (by first | rfl | omega | (simp; done) | (rw [wrap_i64] <;> (try simp only [Int.natCast_add]) <;> omega) | (simp [*]; done))⟩))))
    · have hlt' : decide ((i : Int) < 128) = false := decide_eq_false (by omega)
      have hi' : i = 128 := by omega
      subst hi'
      have hLl := fullL_len q.nm 128
      generalize fullL q.nm 128 = L at *
      have cF := fit_ok p.bays L x 1 hb9 (by omega)
      rw [hF] at cF
      have hdl : (L.drop 1).length = 127 := by rw [List.length_drop]; omega
      have cG := fit_ok p.bays (L.drop 1) x 1 hb9 (by omega)
      have hsd : ((stys L).take 128).drop 1 = stys (L.drop 1) := by
        rw [List.take_of_length_le (by rw [stys_len]; omega)]
        simp [stys]
      have el := stys_len L
      have eo := stys_one L
      have f12 : ((12 : Int) == 12) = true := rfl
      have f18 : ((18 : Int) == 18) = true := rfl
      have f180 : ((18 : Int) == 0) = false := rfl
      have f00 : ((0 : Int) == 0) = true := rfl
      have f018 : ((0 : Int) == 18) = false := rfl
      rcases hG with ⟨y, hy, hc⟩ | ⟨hy, ha⟩
      · rw [hy] at cG
        have cH := free_ok p.bays (L.drop 1) y (by omega) (by omega)
        rw [hc] at cH
        have cH : Pure Tryd.prog 13 [.sl (bys p.bays), .sl (stys (L.drop 1)), y.av] (.v (.bool true)) := cH
        clear hF hy hc hlt hi
        unfold lgS
        refine Awp.ghost (nx' := 210) (S' := lgJ p x L) (by
          unfold lgJ
          (apply Ghost.mk [] [2]; (case hdead => rfl); (case hinj => rfl); (case hV => (simp only [go_sem, *]) <;> (repeat' (first | refine And.intro ?_ ?_ | exact View.int (by first | rfl | omega | (simp; done) | (rw [wrap_i64] <;> (try simp only [Int.natCast_add]) <;> omega) | (simp [*]; done)) | exact .bp rfl (by decide) | exact View.low (Lower.ownE (by first | rfl | (simp only [go_sem, *] <;> rfl)) (by first | rfl | omega | (simp; done) | (rw [wrap_i64] <;> (try simp only [Int.natCast_add]) <;> omega) | (simp [*]; done)))))); (case hB => (simp only [go_sem, *]) <;> (repeat' (first | refine And.intro ?_ ?_ | exact ⟨_, rfl, BView.boxF rfl⟩))))) ?_
        unfold lgJ
        repeat' (first
    | (apply Awp.sreg; (case hn => (simp only [List.length_cons, List.length_nil, Nat.reduceAdd] <;> rfl)))
    | (apply Awp.sdraw; (case hn => (simp only [List.length_cons, List.length_nil, Nat.reduceAdd] <;> rfl)))
    | (refine st_nil ?_)
    | (apply st_a; (case hc => rfl); (case he => (simp only [go_sem, *] <;> rfl)); (case hu => (simp only [updL_nil, updL_cons] <;> rfl)); (case hp => first | trivial | assumption | omega | (simp; done) | (simp; omega) | (simp [*]; done) | ((repeat' (refine And.intro ?_ ?_)) <;> first | trivial | assumption | omega | (simp; done) | (simp; omega) | (simp [*]; done))))
    | (apply st_c; (case hc => (simp only [go_sem, *] <;> rfl)); (case hl => (simp only [go_sem, *] <;> rfl)); (case hn => (simp only [go_sem, *] <;> rfl)); (case hp => first | exact cF | (have hXz := cF; simp only [go_sem, *] at hXz; exact hXz)))
    | (refine Awp.ret ?_; try simp only [go_sem, *])
    | (refine Awp.exit ?_; try simp only [go_sem, *])
    | (apply Awp.cond; (case hc => (simp only [go_sem, *] <;> rfl)); all_goals (intro hg; (try simp only [Bool.not_true, Bool.not_false, reduceCtorEq] at hg)))
    | refine Awp.seq ?_
    | (apply sl_a; (case hc => rfl); (case he => (simp only [go_sem, *] <;> rfl)); (case hu => (simp only [updL_nil, updL_cons] <;> rfl)); (case hl => (simp only [List.map_cons, List.map_nil] <;> rfl)); (case hp => first | trivial | assumption | omega | (simp; done) | (simp; omega) | (simp [*]; done) | ((repeat' (refine And.intro ?_ ?_)) <;> first | trivial | assumption | omega | (simp; done) | (simp; omega) | (simp [*]; done))))
    | (apply sl_gu; (case hv => (simp only [go_sem, *] <;> rfl)))
    | (apply sl_gn; (case hv => (simp only [go_sem, *] <;> rfl)); (case hbw => rfl))
    | (apply sl_ga; (case hb => rfl); (case hv => (simp only [go_sem, *] <;> rfl)); (case he => (simp only [go_sem, *] <;> rfl)); (case hu => (simp only [updL_nil, updL_cons] <;> rfl)); (case hl => (simp only [List.map_cons, List.map_nil] <;> rfl)); (case hp => first | trivial | assumption | omega | (simp; done) | (simp; omega) | (simp [*]; done) | ((repeat' (refine And.intro ?_ ?_)) <;> first | trivial | assumption | omega | (simp; done) | (simp; omega) | (simp [*]; done))))
    | (apply sl_c; (case hc => (simp only [go_sem, *] <;> rfl)); (case hl => (simp only [go_sem, *] <;> rfl)); (case hn => (simp only [go_sem, *] <;> rfl)); (case hp => first | exact cG | (have hXz := cG; simp only [go_sem, *] at hXz; exact hXz)); (case hd => first | exact .inl rfl | exact .inr (.v _) | exact .inr .any | exact .inr .nils); (case hm => first | decide | (simp; done)))
    | (apply sl_cg; (case hop => rfl); (case hv => (simp only [go_sem, *] <;> rfl)); (case hc => (simp only [go_sem, *] <;> rfl)); (case hl => (simp only [go_sem, *] <;> rfl)); (case hn => (simp only [go_sem, *] <;> rfl)); (case hp => first | exact cH | (have hXz := cH; simp only [go_sem, *] at hXz; exact hXz)); (case hd => first | exact .inl rfl | exact .inr (.v _) | exact .inr .any | exact .inr .nils); (case hm => first | decide | (simp; done)))
    | (apply sl_cg; (case hop => rfl); (case hv => (simp only [go_sem, *] <;> rfl)); (case hc => (simp only [go_sem, *] <;> rfl)); (case hl => (simp only [go_sem, *] <;> rfl)); (case hn => (simp only [go_sem, *] <;> rfl)); (case hp => first | exact awake_ok | (have hXz := awake_ok; simp only [go_sem, *] at hXz; exact hXz)); (case hd => first | exact .inl rfl | exact .inr (.v _) | exact .inr .any | exact .inr .nils); (case hm => first | decide | (simp; done)))
    | (refine sl_nil (And.intro (by first | exact drawOk_of (by decide +kernel) | (simp only [List.map_cons, List.map_nil]; exact drawOk_of (by decide +kernel)) | decide) ?_)))
        all_goals repeat' (first | exact Lower.bool (by first | rfl | (simp only [true_and, Bool.true_and, Bool.false_and, Bool.and_true, Bool.and_false, Bool.true_or, Bool.false_or, reduceIte, Bool.false_eq_true, *]; done) | (simp only [true_and, reduceIte, Bool.false_eq_true, *] <;> rfl) | (simp [true_and]; done) | (simp_all [true_and]; done) | omega))
      · rw [hy] at cG
        have ha' : (x.a == 1048576) = true := by simpa using ha
        clear hF hy ha hlt hi
        unfold lgS
        refine Awp.ghost (nx' := 210) (S' := lgJ p x L) (by
          unfold lgJ
          (apply Ghost.mk [] [2]; (case hdead => rfl); (case hinj => rfl); (case hV => (simp only [go_sem, *]) <;> (repeat' (first | refine And.intro ?_ ?_ | exact View.int (by first | rfl | omega | (simp; done) | (rw [wrap_i64] <;> (try simp only [Int.natCast_add]) <;> omega) | (simp [*]; done)) | exact .bp rfl (by decide) | exact View.low (Lower.ownE (by first | rfl | (simp only [go_sem, *] <;> rfl)) (by first | rfl | omega | (simp; done) | (rw [wrap_i64] <;> (try simp only [Int.natCast_add]) <;> omega) | (simp [*]; done)))))); (case hB => (simp only [go_sem, *]) <;> (repeat' (first | refine And.intro ?_ ?_ | exact ⟨_, rfl, BView.boxF rfl⟩))))) ?_
        unfold lgJ
        repeat' (first
    | (apply Awp.sreg; (case hn => (simp only [List.length_cons, List.length_nil, Nat.reduceAdd] <;> rfl)))
    | (apply Awp.sdraw; (case hn => (simp only [List.length_cons, List.length_nil, Nat.reduceAdd] <;> rfl)))
    | (refine st_nil ?_)
    | (apply st_a; (case hc => rfl); (case he => (simp only [go_sem, *] <;> rfl)); (case hu => (simp only [updL_nil, updL_cons] <;> rfl)); (case hp => first | trivial | assumption | omega | (simp; done) | (simp; omega) | (simp [*]; done) | ((repeat' (refine And.intro ?_ ?_)) <;> first | trivial | assumption | omega | (simp; done) | (simp; omega) | (simp [*]; done))))
    | (apply st_c; (case hc => (simp only [go_sem, *] <;> rfl)); (case hl => (simp only [go_sem, *] <;> rfl)); (case hn => (simp only [go_sem, *] <;> rfl)); (case hp => first | exact cF | (have hXz := cF; simp only [go_sem, *] at hXz; exact hXz)))
    | (refine Awp.ret ?_; try simp only [go_sem, *])
    | (refine Awp.exit ?_; try simp only [go_sem, *])
    | (apply Awp.cond; (case hc => (simp only [go_sem, *] <;> rfl)); all_goals (intro hg; (try simp only [Bool.not_true, Bool.not_false, reduceCtorEq] at hg)))
    | refine Awp.seq ?_
    | (apply sl_a; (case hc => rfl); (case he => (simp only [go_sem, *] <;> rfl)); (case hu => (simp only [updL_nil, updL_cons] <;> rfl)); (case hl => (simp only [List.map_cons, List.map_nil] <;> rfl)); (case hp => first | trivial | assumption | omega | (simp; done) | (simp; omega) | (simp [*]; done) | ((repeat' (refine And.intro ?_ ?_)) <;> first | trivial | assumption | omega | (simp; done) | (simp; omega) | (simp [*]; done))))
    | (apply sl_gn; (case hv => (simp only [go_sem, *] <;> rfl)); (case hbw => rfl))
    | (apply sl_ga; (case hb => rfl); (case hv => (simp only [go_sem, *] <;> rfl)); (case he => (simp only [go_sem, *] <;> rfl)); (case hu => (simp only [updL_nil, updL_cons] <;> rfl)); (case hl => (simp only [List.map_cons, List.map_nil] <;> rfl)); (case hp => first | trivial | assumption | omega | (simp; done) | (simp; omega) | (simp [*]; done) | ((repeat' (refine And.intro ?_ ?_)) <;> first | trivial | assumption | omega | (simp; done) | (simp; omega) | (simp [*]; done))))
    | (apply sl_c; (case hc => (simp only [go_sem, *] <;> rfl)); (case hl => (simp only [go_sem, *] <;> rfl)); (case hn => (simp only [go_sem, *] <;> rfl)); (case hp => first | exact cG | (have hXz := cG; simp only [go_sem, *] at hXz; exact hXz)); (case hd => first | exact .inl rfl | exact .inr (.v _) | exact .inr .any | exact .inr .nils); (case hm => first | decide | (simp; done)))
    | (apply sl_cg; (case hop => rfl); (case hv => (simp only [go_sem, *] <;> rfl)); (case hc => (simp only [go_sem, *] <;> rfl)); (case hl => (simp only [go_sem, *] <;> rfl)); (case hn => (simp only [go_sem, *] <;> rfl)); (case hp => first | exact awake_ok | (have hXz := awake_ok; simp only [go_sem, *] at hXz; exact hXz)); (case hd => first | exact .inl rfl | exact .inr (.v _) | exact .inr .any | exact .inr .nils); (case hm => first | decide | (simp; done)))
    | (refine sl_nil (And.intro (by first | exact drawOk_of (by decide +kernel) | (simp only [List.map_cons, List.map_nil]; exact drawOk_of (by decide +kernel)) | decide) ?_)))
        all_goals repeat' (first | exact Lower.bool (by first | rfl | (simp only [true_and, Bool.true_and, Bool.false_and, Bool.and_true, Bool.and_false, Bool.true_or, Bool.false_or, reduceIte, Bool.false_eq_true, *]; done) | (simp only [true_and, reduceIte, Bool.false_eq_true, *] <;> rfl) | (simp [true_and]; done) | (simp_all [true_and]; done) | omega))
end Go.Proofs
end
