import Derived.Test.YtdgacfkgodbajaaGreatDoorPXE
section
set_option linter.unusedVariables false
set_option linter.unusedSimpArgs false
namespace Go.Proofs
open Go Go.Ab
set_option maxHeartbeats 8000000
set_option maxRecDepth 100000
set_option linter.unusedSimpArgs false
set_option linter.unusedVariables false
attribute [local irreducible] Awp aops aopsL Go.Ab.Pure PureOwn

theorem covers_ok (l : List Pt) (k t : Int) (w : Sp) : Pure Tryz.prog 4 [.sl (pts l), .agg [.v (.int .i64 k), .v (.int .i64 t)], w.av] (.v (.bool true)) := by
  have c0 := short_ok l
  cases h1 : shortB l
  · rw [h1] at c0
    refine fn_pure Tryz.F4 (Nat.le_of_ble_eq_true rfl) ?_; unfold Tryz.ac4
    repeat' (first
    | (apply Awp.sreg; (case hn => (simp only [List.length_cons, List.length_nil, Nat.reduceAdd] <;> rfl)))
    | (refine st_nil ?_)
    | (apply st_a; (case hc => rfl); (case he => (simp only [go_sem, *] <;> rfl)); (case hu => (simp only [updL_nil, updL_cons] <;> rfl)); (case hp => first | trivial))
    | (apply st_c; (case hc => (simp only [go_sem, *] <;> rfl)); (case hl => (simp only [go_sem, *] <;> rfl)); (case hn => (simp only [go_sem, *] <;> rfl)); (case hp => first | exact c0 | (have hXz := c0; simp only [go_sem, *] at hXz; exact hXz)))
    | (apply st_c; (case hc => (simp only [go_sem, *] <;> rfl)); (case hl => (simp only [go_sem, *] <;> rfl)); (case hn => (simp only [go_sem, *] <;> rfl)); (case hp => first | exact awake_ok | (have hXz := awake_ok; simp only [go_sem, *] at hXz; exact hXz)))
    | (refine Awp.ret ?_; try simp only [go_sem, *])
    | (apply Awp.cond; (case hc => (simp only [go_sem, *] <;> rfl)); all_goals (intro hg; (try simp only [Bool.not_true, Bool.not_false, reduceCtorEq] at hg)))
    | refine Awp.seq ?_)
    all_goals repeat' (first | exact Lower.bool (by first | rfl | (simp only [true_and, Bool.true_and, Bool.false_and, Bool.and_true, Bool.and_false, Bool.true_or, Bool.false_or, reduceIte, Bool.false_eq_true, *]; done) | (simp only [true_and, reduceIte, Bool.false_eq_true, *] <;> rfl) | (simp [true_and]; done) | (simp_all [true_and]; done) | omega))
  rw [h1] at c0
  have hl := (short_get h1).1
  have c1 := valid_ok l k t (by omega)
  have c2 := rvalid_ok l k t (by omega)
  have c3 := (cover_ok l k w (by omega)).pure
  have c4 := (rcover_ok l k w (by omega)).pure
  have hcl := cov_len (busyP l k) w
  have hbl := busyP_len l k
  have c5 := samesp_ok (covE l k w) (by unfold covE; omega)
  clear h1 hl hcl hbl
  generalize validB l k t = V at *
  generalize covE l k w = C at *
  have e2 : (V == V) = true := by simp
  refine fn_pure Tryz.F4 (Nat.le_of_ble_eq_true rfl) ?_; unfold Tryz.ac4
  repeat' (first
    | (apply Awp.sreg; (case hn => (simp only [List.length_cons, List.length_nil, Nat.reduceAdd] <;> rfl)))
    | (apply Awp.sdraw; (case hn => (simp only [List.length_cons, List.length_nil, Nat.reduceAdd] <;> rfl)))
    | (refine st_nil ?_)
    | (apply st_a; (case hc => rfl); (case he => (simp only [go_sem, *] <;> rfl)); (case hu => (simp only [updL_nil, updL_cons] <;> rfl)); (case hp => first | trivial))
    | (apply st_c; (case hc => (simp only [go_sem, *] <;> rfl)); (case hl => (simp only [go_sem, *] <;> rfl)); (case hn => (simp only [go_sem, *] <;> rfl)); (case hp => first | exact c0 | (have hXz := c0; simp only [go_sem, *] at hXz; exact hXz)))
    | (refine Awp.ret ?_; try simp only [go_sem, *])
    | (refine Awp.skip ?_; try simp only [go_sem, *])
    | (apply Awp.cond; (case hc => (simp only [go_sem, *] <;> rfl)); all_goals (intro hg; (try simp only [Bool.not_true, Bool.not_false, reduceCtorEq] at hg)))
    | refine Awp.seq ?_
    | (apply sl_a; (case hc => rfl); (case he => (simp only [go_sem, *] <;> rfl)); (case hu => (simp only [updL_nil, updL_cons] <;> rfl)); (case hl => (simp only [List.map_cons, List.map_nil] <;> rfl)); (case hp => first | trivial))
    | (apply sl_ga; (case hb => rfl); (case hv => (simp only [go_sem, *] <;> rfl)); (case he => (simp only [go_sem, *] <;> rfl)); (case hu => (simp only [updL_nil, updL_cons] <;> rfl)); (case hl => (simp only [List.map_cons, List.map_nil] <;> rfl)); (case hp => first | trivial))
    | (apply sl_c; (case hc => (simp only [go_sem, *] <;> rfl)); (case hl => (simp only [go_sem, *] <;> rfl)); (case hn => (simp only [go_sem, *] <;> rfl)); (case hp => first | exact c1 | (have hXz := c1; simp only [go_sem, *] at hXz; exact hXz)); (case hd => first | exact .inl rfl | exact .inr (.v _) | exact .inr .any | exact .inr .nils); (case hm => first | decide | (simp; done)))
    | (apply sl_c; (case hc => (simp only [go_sem, *] <;> rfl)); (case hl => (simp only [go_sem, *] <;> rfl)); (case hn => (simp only [go_sem, *] <;> rfl)); (case hp => first | exact c2 | (have hXz := c2; simp only [go_sem, *] at hXz; exact hXz)); (case hd => first | exact .inl rfl | exact .inr (.v _) | exact .inr .any | exact .inr .nils); (case hm => first | decide | (simp; done)))
    | (apply sl_cg; (case hop => rfl); (case hv => (simp only [go_sem, *] <;> rfl)); (case hc => (simp only [go_sem, *] <;> rfl)); (case hl => (simp only [go_sem, *] <;> rfl)); (case hn => (simp only [go_sem, *] <;> rfl)); (case hp => first | exact c3 | (have hXz := c3; simp only [go_sem, *] at hXz; exact hXz)); (case hd => first | exact .inl rfl | exact .inr (.v _) | exact .inr .any | exact .inr .nils); (case hm => first | decide | (simp; done)))
    | (apply sl_cg; (case hop => rfl); (case hv => (simp only [go_sem, *] <;> rfl)); (case hc => (simp only [go_sem, *] <;> rfl)); (case hl => (simp only [go_sem, *] <;> rfl)); (case hn => (simp only [go_sem, *] <;> rfl)); (case hp => first | exact c4 | (have hXz := c4; simp only [go_sem, *] at hXz; exact hXz)); (case hd => first | exact .inl rfl | exact .inr (.v _) | exact .inr .any | exact .inr .nils); (case hm => first | decide | (simp; done)))
    | (apply sl_cg; (case hop => rfl); (case hv => (simp only [go_sem, *] <;> rfl)); (case hc => (simp only [go_sem, *] <;> rfl)); (case hl => (simp only [go_sem, *] <;> rfl)); (case hn => (simp only [go_sem, *] <;> rfl)); (case hp => first | exact c5 | (have hXz := c5; simp only [go_sem, *] at hXz; exact hXz)); (case hd => first | exact .inl rfl | exact .inr (.v _) | exact .inr .any | exact .inr .nils); (case hm => first | decide | (simp; done)))
    | (apply sl_cg; (case hop => rfl); (case hv => (simp only [go_sem, *] <;> rfl)); (case hc => (simp only [go_sem, *] <;> rfl)); (case hl => (simp only [go_sem, *] <;> rfl)); (case hn => (simp only [go_sem, *] <;> rfl)); (case hp => first | exact awake_ok | (have hXz := awake_ok; simp only [go_sem, *] at hXz; exact hXz)); (case hd => first | exact .inl rfl | exact .inr (.v _) | exact .inr .any | exact .inr .nils); (case hm => first | decide | (simp; done)))
    | (refine sl_nil (And.intro (by first | exact drawOk_of (by decide +kernel) | (simp only [List.map_cons, List.map_nil]; exact drawOk_of (by decide +kernel)) | decide) ?_)))
  all_goals repeat' (first | exact Lower.bool (by first | rfl | (simp only [true_and, Bool.true_and, Bool.false_and, Bool.and_true, Bool.and_false, Bool.true_or, Bool.false_or, reduceIte, Bool.false_eq_true, *]; done) | (simp only [true_and, reduceIte, Bool.false_eq_true, *] <;> rfl) | (simp [true_and]; done) | (simp_all [true_and]; done) | omega))
def inS (t : Int) (s : Sp) : Bool := decide (s.a ≤ t) && decide (t < s.b)
theorem cov_at (l : List Pt) (k : Int) (w : Sp) (t : Int) : (covE l k w).any (inS t) = (decide (w.a ≤ t) && decide (t < w.b) && validB l k t) := by
  have h := upto_has w.a w.b (busyP l k) t
  rw [← hasB_iff, ← hasB_iff, valid_has] at h
  have e : (covE l k w).any (inS t) = hasB (upto w.a w.b (busyP l k)) t := rfl
  rw [e, Bool.eq_iff_iff, h]
  simp
theorem cov_ok {l : List Pt} {k : Int} {w : Sp} {i : Nat} (hi : i < (covE l k w).length) : ((covE l k w).getD i zeroSp).a < ((covE l k w).getD i zeroSp).b ∧ w.a ≤ ((covE l k w).getD i zeroSp).a ∧ ((covE l k w).getD i zeroSp).b ≤ w.b ∧ (0 < i → ((covE l k w).getD (i - 1) zeroSp).b < ((covE l k w).getD i zeroSp).a) := by
  have hc : Canon (covE l k w) := upto_canon w.a w.b (busyP l k)
  have hm : (covE l k w).getD i zeroSp ∈ covE l k w := by rw [getD_get _ zeroSp i hi]; exact List.getElem_mem hi
  have h1 := hc.2 _ hm
  have h2 : ∀ n, hasS (covE l k w) n → w.a ≤ n ∧ n < w.b := fun n hn => ((upto_has w.a w.b (busyP l k) n).1 hn).1
  have h3 := h2 _ ⟨_, hm, Int.le_refl _, h1⟩
  have h4 := h2 (((covE l k w).getD i zeroSp).b - 1) ⟨_, hm, by omega, by omega⟩
  refine ⟨h1, h3.1, by omega, fun h0 => ?_⟩
  have hp := List.pairwise_iff_getElem.1 hc.1 (i - 1) i (by omega) hi (by omega)
  rw [getD_get _ zeroSp i hi, getD_get _ zeroSp (i - 1) (by omega)]
  exact hp
theorem gaps_ok (l : List Pt) (k x y z : Int) : Pure Tryz.prog 7 [.sl (pts l), .v (.int .i64 k), .agg [.v (.int .i64 x), .v (.int .i64 y), .v (.int .i64 z)]] (.v (.bool true)) := by
  have c0 := short_ok l
  cases h1 : shortB l
  · rw [h1] at c0
    refine fn_pure Tryz.F7 (Nat.le_of_ble_eq_true rfl) ?_; unfold Tryz.ac7
    repeat' (first
    | (apply Awp.sreg; (case hn => (simp only [List.length_cons, List.length_nil, Nat.reduceAdd] <;> rfl)))
    | (refine st_nil ?_)
    | (apply st_a; (case hc => rfl); (case he => (simp only [go_sem, *] <;> rfl)); (case hu => (simp only [updL_nil, updL_cons] <;> rfl)); (case hp => first | trivial))
    | (apply st_c; (case hc => (simp only [go_sem, *] <;> rfl)); (case hl => (simp only [go_sem, *] <;> rfl)); (case hn => (simp only [go_sem, *] <;> rfl)); (case hp => first | exact c0 | (have hXz := c0; simp only [go_sem, *] at hXz; exact hXz)))
    | (apply st_c; (case hc => (simp only [go_sem, *] <;> rfl)); (case hl => (simp only [go_sem, *] <;> rfl)); (case hn => (simp only [go_sem, *] <;> rfl)); (case hp => first | exact awake_ok | (have hXz := awake_ok; simp only [go_sem, *] at hXz; exact hXz)))
    | (refine Awp.ret ?_; try simp only [go_sem, *])
    | (apply Awp.cond; (case hc => (simp only [go_sem, *] <;> rfl)); all_goals (intro hg; (try simp only [Bool.not_true, Bool.not_false, reduceCtorEq] at hg)))
    | refine Awp.seq ?_)
    all_goals repeat' (first | exact Lower.bool (by first | rfl | (simp only [true_and, Bool.true_and, Bool.false_and, Bool.and_true, Bool.and_false, Bool.true_or, Bool.false_or, reduceIte, Bool.false_eq_true, *]; done) | (simp only [true_and, reduceIte, Bool.false_eq_true, *] <;> rfl) | (simp [true_and]; done) | (simp_all [true_and]; done) | omega))
  rw [h1] at c0
  have hl := (short_get h1).1
  have c1 := cover_ok l k ⟨x, y⟩ (by omega)
  have c2 := valid_ok l k z (by omega)
  have hat' := cov_at l k ⟨x, y⟩ z
  have hok := fun i (hi : i < (covE l k ⟨x, y⟩).length) => cov_ok hi
  have hcl := cov_len (busyP l k) ⟨x, y⟩
  have hbl := busyP_len l k
  have hLl : (covE l k ⟨x, y⟩).length < 100000 := by unfold covE; omega
  clear h1 hl hcl hbl
  generalize covE l k ⟨x, y⟩ = L at *
  generalize validB l k z = B at *
  refine fn_pure Tryz.F7 (Nat.le_of_ble_eq_true rfl) ?_; unfold Tryz.ac7
  repeat' (first
    | (apply Awp.sreg; (case hn => (simp only [List.length_cons, List.length_nil, Nat.reduceAdd] <;> rfl)))
    | (apply Awp.sdraw; (case hn => (simp only [List.length_cons, List.length_nil, Nat.reduceAdd] <;> rfl)))
    | (refine st_nil ?_)
    | (apply st_a; (case hc => rfl); (case he => (simp only [go_sem, *] <;> rfl)); (case hu => (simp only [updL_nil, updL_cons] <;> rfl)); (case hp => first | trivial))
    | (apply st_c; (case hc => (simp only [go_sem, *] <;> rfl)); (case hl => (simp only [go_sem, *] <;> rfl)); (case hn => (simp only [go_sem, *] <;> rfl)); (case hp => first | exact c0 | (have hXz := c0; simp only [go_sem, *] at hXz; exact hXz)))
    | (apply st_cod; (case hc => (simp only [go_sem, *] <;> rfl)); (case hl => (simp only [go_sem, *] <;> rfl)); (case hn => (simp only [go_sem, *] <;> rfl)); (case hp => first | exact c1 | (have hXz := c1; simp only [go_sem, *] at hXz; exact hXz)); (case hd => first | exact sps_dry _ | exact ints_dry _ | exact pts_dry _ | exact strs_dry _ | (repeat' (first | exact Dry.v _ | exact Dry.any | exact Dry.nils | exact Dry.slE | refine Dry.agg ?_ | refine Dry.tup ?_ | (refine List.forall_mem_cons.2 (And.intro ?_ ?_)) | (intro cQ hQ; cases hQ; done)))); (case hm => first | decide | (simp; done)))
    | (refine Awp.skip ?_; try simp only [go_sem, *])
    | refine Awp.block ?_
    | (apply Awp.cond; (case hc => (simp only [go_sem, *] <;> rfl)); all_goals (intro hg; (try simp only [Bool.not_true, Bool.not_false, reduceCtorEq] at hg)))
    | refine Awp.seq ?_
    | (apply sl_a; (case hc => rfl); (case he => (simp only [go_sem, *] <;> rfl)); (case hu => (simp only [updL_nil, updL_cons] <;> rfl)); (case hl => (simp only [List.map_cons, List.map_nil] <;> rfl)); (case hp => first | trivial))
    | (refine sl_nil (And.intro (by first | exact drawOk_of (by decide +kernel) | (simp only [List.map_cons, List.map_nil]; exact drawOk_of (by decide +kernel)) | decide) ?_)))
  refine Awp.loop (fun i : Nat => i ≤ L.length) 150 (fun i => mkS [(0, .sl (pts l)), (1, .v (.int .i64 k)), (7, .bp 0 0), (8, .v (.int .i64 z)), (9, .own 1), (10, .v (.bool ((L.take i).any (inS z)))), (11, .v (.int .i64 i))] [(0, .box [.v (.int .i64 x), .v (.int .i64 y)]), (1, .row (sps L) 2 24)]) (fun i => L.length - i) 0 (by omega) ?_ ?_
  · have e0 : (L.take 0).any (inS z) = false := rfl
    rw [e0]
    clear c0 c1 c2 hok hat'
    (apply Ghost.mk [(0, 12), (1, 18)] []; (case hdead => rfl); (case hinj => rfl); (case hV => (simp only [go_sem, *]) <;> (repeat' (first | refine And.intro ?_ ?_ | exact View.int (by first | rfl | omega | (simp; done) | (rw [wrap_i64] <;> (try simp only [Int.natCast_add]) <;> omega) | (simp [*]; done)) | exact .bp rfl (by decide) | exact .own rfl (by decide)))); (case hB => (simp only [go_sem, *]) <;> (repeat' (first | refine And.intro ?_ ?_ | exact ⟨_, rfl, BView.boxF rfl⟩ | exact ⟨_, rfl, .rowE (by first | rfl | omega | (simp; done) | (rw [wrap_i64] <;> (try simp only [Int.natCast_add]) <;> omega) | (simp [*]; done))⟩))))
  · intro i hi
    have hln := sps_len L
    by_cases hlt : i < L.length
    · have hlt' : (i : Int) < L.length := by omega
      have hat := sps_at L i hlt
      have hz : ((L.getD i zeroSp).cells).length = 2 := rfl
      have ho := hok i hlt
      have hst : (L.take (i + 1)).any (inS z) = ((L.take i).any (inS z) || inS z (L.getD i zeroSp)) := by
        rw [take_snoc L zeroSp i hlt, List.any_append]; simp
      clear hok hat' c2 c0 c1
      obtain ⟨ho1, ho2, ho3, ho4⟩ := ho
      by_cases h0 : 0 < i
      · have hp : decide ((0 : Int) < (i : Int)) = true := decide_eq_true (by omega)
        have hw := pred_wrap h0 (show i < 1000000 by omega)
        have hatp := sps_at L (i - 1) (by omega)
        have hzp : ((L.getD (i - 1) zeroSp).cells).length = 2 := rfl
        have hlp : ((i - 1 : Nat) : Int) < L.length := by omega
        have hlpn : i - 1 < L.length := by omega
        have hp0 : (0 : Int) ≤ ((i - 1 : Nat) : Int) := by omega
        have ho4 := ho4 h0
        generalize L.getD i zeroSp = s at *
        generalize L.getD (i - 1) zeroSp = r at *
        have d1 : decide (s.b ≤ s.a) = false := decide_eq_false (by omega)
        have d2 : decide (s.a < x) = false := decide_eq_false (by have : x ≤ s.a := ho2; omega)
        have d3 : decide (y < s.b) = false := decide_eq_false (by have : s.b ≤ y := ho3; omega)
        have d5 : decide (s.a ≤ r.b) = false := decide_eq_false (by omega)
        clear ho1 ho2 ho3 ho4
        rw [show inS z s = (decide (s.a ≤ z) && decide (z < s.b)) from rfl] at hst
        generalize hT : (L.take i).any (inS z) = T at *
        cases T
        · cases e1 : decide (s.a ≤ z)
          · rw [e1] at hst
            repeat' (first
    | (apply Awp.sreg; (case hn => (simp only [List.length_cons, List.length_nil, Nat.reduceAdd] <;> rfl)))
    | (apply Awp.sdraw; (case hn => (simp only [List.length_cons, List.length_nil, Nat.reduceAdd] <;> rfl)))
    | (refine st_nil ?_)
    | (apply st_a; (case hc => rfl); (case he => (simp only [go_sem, *] <;> rfl)); (case hu => (simp only [updL_nil, updL_cons] <;> rfl)); (case hp => first | trivial))
    | (apply st_m; (case hc => rfl); (case hg => (simp only [go_sem, *] <;> rfl)); (case he => (intro hQz; (try simp only [wantB_t, wantB_f, Bool.and_eq_true, Bool.not_eq_true', Bool.not_true, Bool.not_false, and_true, true_and] at hQz); simp only [go_sem, *] <;> rfl)); (case hp => (intro hQz; (try simp only [wantB_t, wantB_f, Bool.and_eq_true, Bool.not_eq_true', Bool.or_eq_false_iff, decide_eq_true_eq, decide_eq_false_iff_not, beq_iff_eq, beq_eq_false_iff_ne, bne_iff_ne, bne_eq_false_iff_eq, Int.not_lt, Int.not_le, Int.ofNat_lt, Int.ofNat_le] at hQz); first | trivial | omega)))
    | (apply Awp.reg; (case hn => (simp only [List.length_cons, List.length_nil, Nat.reduceAdd] <;> rfl)))
    | (refine Awp.skip ?_; try simp only [go_sem, *])
    | refine Awp.block ?_
    | (apply Awp.cond; (case hc => (simp only [go_sem, *] <;> rfl)); all_goals (intro hg; (try simp only [Bool.not_true, Bool.not_false, reduceCtorEq] at hg)))
    | refine Awp.seq ?_
    | (apply sl_a; (case hc => rfl); (case he => (simp only [go_sem, *] <;> rfl)); (case hu => (simp only [updL_nil, updL_cons] <;> rfl)); (case hl => (simp only [List.map_cons, List.map_nil] <;> rfl)); (case hp => first | trivial | omega))
    | (apply sl_ga; (case hb => rfl); (case hv => (simp only [go_sem, *] <;> rfl)); (case he => (simp only [go_sem, *] <;> rfl)); (case hu => (simp only [updL_nil, updL_cons] <;> rfl)); (case hl => (simp only [List.map_cons, List.map_nil] <;> rfl)); (case hp => first | trivial | omega))
    | (refine sl_nil (And.intro (by first | exact drawOk_of (by decide +kernel) | (simp only [List.map_cons, List.map_nil]; exact drawOk_of (by decide +kernel)) | decide) ?_)))
            all_goals (refine ⟨i + 1, by omega, by omega, ?_⟩; rw [hst]; clear hst; (apply Ghost.mk [] []; (case hdead => rfl); (case hinj => rfl); (case hV => (simp only [go_sem, *]) <;> (repeat' (first | refine And.intro ?_ ?_ | exact View.int (by first | rfl | omega | (simp; done) | (rw [wrap_i64] <;> (try simp only [Int.natCast_add]) <;> omega) | (simp [*]; done)) | exact .bp rfl (by decide) | exact .own rfl (by decide)))); (case hB => (simp only [go_sem, *]) <;> (repeat' (first | refine And.intro ?_ ?_ | exact ⟨_, rfl, BView.boxF rfl⟩ | exact ⟨_, rfl, .rowE (by first | rfl | omega | (simp; done) | (rw [wrap_i64] <;> (try simp only [Int.natCast_add]) <;> omega) | (simp [*]; done))⟩)))))
          · rw [e1] at hst
            cases e2 : decide (z < s.b)
            · rw [e2] at hst
              repeat' (first
    | (apply Awp.sreg; (case hn => (simp only [List.length_cons, List.length_nil, Nat.reduceAdd] <;> rfl)))
    | (apply Awp.sdraw; (case hn => (simp only [List.length_cons, List.length_nil, Nat.reduceAdd] <;> rfl)))
    | (refine st_nil ?_)
    | (apply st_a; (case hc => rfl); (case he => (simp only [go_sem, *] <;> rfl)); (case hu => (simp only [updL_nil, updL_cons] <;> rfl)); (case hp => first | trivial))
    | (apply st_m; (case hc => rfl); (case hg => (simp only [go_sem, *] <;> rfl)); (case he => (intro hQz; (try simp only [wantB_t, wantB_f, Bool.and_eq_true, Bool.not_eq_true', Bool.not_true, Bool.not_false, and_true, true_and] at hQz); simp only [go_sem, *] <;> rfl)); (case hp => (intro hQz; (try simp only [wantB_t, wantB_f, Bool.and_eq_true, Bool.not_eq_true', Bool.or_eq_false_iff, decide_eq_true_eq, decide_eq_false_iff_not, beq_iff_eq, beq_eq_false_iff_ne, bne_iff_ne, bne_eq_false_iff_eq, Int.not_lt, Int.not_le, Int.ofNat_lt, Int.ofNat_le] at hQz); first | trivial | omega)))
    | (apply Awp.reg; (case hn => (simp only [List.length_cons, List.length_nil, Nat.reduceAdd] <;> rfl)))
    | (refine Awp.skip ?_; try simp only [go_sem, *])
    | refine Awp.block ?_
    | (apply Awp.cond; (case hc => (simp only [go_sem, *] <;> rfl)); all_goals (intro hg; (try simp only [Bool.not_true, Bool.not_false, reduceCtorEq] at hg)))
    | refine Awp.seq ?_
    | (apply sl_a; (case hc => rfl); (case he => (simp only [go_sem, *] <;> rfl)); (case hu => (simp only [updL_nil, updL_cons] <;> rfl)); (case hl => (simp only [List.map_cons, List.map_nil] <;> rfl)); (case hp => first | trivial | omega))
    | (apply sl_ga; (case hb => rfl); (case hv => (simp only [go_sem, *] <;> rfl)); (case he => (simp only [go_sem, *] <;> rfl)); (case hu => (simp only [updL_nil, updL_cons] <;> rfl)); (case hl => (simp only [List.map_cons, List.map_nil] <;> rfl)); (case hp => first | trivial | omega))
    | (refine sl_nil (And.intro (by first | exact drawOk_of (by decide +kernel) | (simp only [List.map_cons, List.map_nil]; exact drawOk_of (by decide +kernel)) | decide) ?_)))
              all_goals (refine ⟨i + 1, by omega, by omega, ?_⟩; rw [hst]; clear hst; (apply Ghost.mk [] []; (case hdead => rfl); (case hinj => rfl); (case hV => (simp only [go_sem, *]) <;> (repeat' (first | refine And.intro ?_ ?_ | exact View.int (by first | rfl | omega | (simp; done) | (rw [wrap_i64] <;> (try simp only [Int.natCast_add]) <;> omega) | (simp [*]; done)) | exact .bp rfl (by decide) | exact .own rfl (by decide)))); (case hB => (simp only [go_sem, *]) <;> (repeat' (first | refine And.intro ?_ ?_ | exact ⟨_, rfl, BView.boxF rfl⟩ | exact ⟨_, rfl, .rowE (by first | rfl | omega | (simp; done) | (rw [wrap_i64] <;> (try simp only [Int.natCast_add]) <;> omega) | (simp [*]; done))⟩)))))
            · rw [e2] at hst
              repeat' (first
    | (apply Awp.sreg; (case hn => (simp only [List.length_cons, List.length_nil, Nat.reduceAdd] <;> rfl)))
    | (apply Awp.sdraw; (case hn => (simp only [List.length_cons, List.length_nil, Nat.reduceAdd] <;> rfl)))
    | (refine st_nil ?_)
    | (apply st_a; (case hc => rfl); (case he => (simp only [go_sem, *] <;> rfl)); (case hu => (simp only [updL_nil, updL_cons] <;> rfl)); (case hp => first | trivial))
    | (apply st_m; (case hc => rfl); (case hg => (simp only [go_sem, *] <;> rfl)); (case he => (intro hQz; (try simp only [wantB_t, wantB_f, Bool.and_eq_true, Bool.not_eq_true', Bool.not_true, Bool.not_false, and_true, true_and] at hQz); simp only [go_sem, *] <;> rfl)); (case hp => (intro hQz; (try simp only [wantB_t, wantB_f, Bool.and_eq_true, Bool.not_eq_true', Bool.or_eq_false_iff, decide_eq_true_eq, decide_eq_false_iff_not, beq_iff_eq, beq_eq_false_iff_ne, bne_iff_ne, bne_eq_false_iff_eq, Int.not_lt, Int.not_le, Int.ofNat_lt, Int.ofNat_le] at hQz); first | trivial | omega)))
    | (apply Awp.reg; (case hn => (simp only [List.length_cons, List.length_nil, Nat.reduceAdd] <;> rfl)))
    | (refine Awp.skip ?_; try simp only [go_sem, *])
    | refine Awp.block ?_
    | (apply Awp.cond; (case hc => (simp only [go_sem, *] <;> rfl)); all_goals (intro hg; (try simp only [Bool.not_true, Bool.not_false, reduceCtorEq] at hg)))
    | refine Awp.seq ?_
    | (apply sl_a; (case hc => rfl); (case he => (simp only [go_sem, *] <;> rfl)); (case hu => (simp only [updL_nil, updL_cons] <;> rfl)); (case hl => (simp only [List.map_cons, List.map_nil] <;> rfl)); (case hp => first | trivial | omega))
    | (apply sl_ga; (case hb => rfl); (case hv => (simp only [go_sem, *] <;> rfl)); (case he => (simp only [go_sem, *] <;> rfl)); (case hu => (simp only [updL_nil, updL_cons] <;> rfl)); (case hl => (simp only [List.map_cons, List.map_nil] <;> rfl)); (case hp => first | trivial | omega))
    | (refine sl_nil (And.intro (by first | exact drawOk_of (by decide +kernel) | (simp only [List.map_cons, List.map_nil]; exact drawOk_of (by decide +kernel)) | decide) ?_)))
              all_goals (refine ⟨i + 1, by omega, by omega, ?_⟩; rw [hst]; clear hst; (apply Ghost.mk [] []; (case hdead => rfl); (case hinj => rfl); (case hV => (simp only [go_sem, *]) <;> (repeat' (first | refine And.intro ?_ ?_ | exact View.int (by first | rfl | omega | (simp; done) | (rw [wrap_i64] <;> (try simp only [Int.natCast_add]) <;> omega) | (simp [*]; done)) | exact .bp rfl (by decide) | exact .own rfl (by decide)))); (case hB => (simp only [go_sem, *]) <;> (repeat' (first | refine And.intro ?_ ?_ | exact ⟨_, rfl, BView.boxF rfl⟩ | exact ⟨_, rfl, .rowE (by first | rfl | omega | (simp; done) | (rw [wrap_i64] <;> (try simp only [Int.natCast_add]) <;> omega) | (simp [*]; done))⟩)))))
        · repeat' (first
    | (apply Awp.sreg; (case hn => (simp only [List.length_cons, List.length_nil, Nat.reduceAdd] <;> rfl)))
    | (apply Awp.sdraw; (case hn => (simp only [List.length_cons, List.length_nil, Nat.reduceAdd] <;> rfl)))
    | (refine st_nil ?_)
    | (apply st_a; (case hc => rfl); (case he => (simp only [go_sem, *] <;> rfl)); (case hu => (simp only [updL_nil, updL_cons] <;> rfl)); (case hp => first | trivial))
    | (apply st_m; (case hc => rfl); (case hg => (simp only [go_sem, *] <;> rfl)); (case he => (intro hQz; (try simp only [wantB_t, wantB_f, Bool.and_eq_true, Bool.not_eq_true', Bool.not_true, Bool.not_false, and_true, true_and] at hQz); simp only [go_sem, *] <;> rfl)); (case hp => (intro hQz; (try simp only [wantB_t, wantB_f, Bool.and_eq_true, Bool.not_eq_true', Bool.or_eq_false_iff, decide_eq_true_eq, decide_eq_false_iff_not, beq_iff_eq, beq_eq_false_iff_ne, bne_iff_ne, bne_eq_false_iff_eq, Int.not_lt, Int.not_le, Int.ofNat_lt, Int.ofNat_le] at hQz); first | trivial)))
    | (apply Awp.reg; (case hn => (simp only [List.length_cons, List.length_nil, Nat.reduceAdd] <;> rfl)))
    | (refine Awp.skip ?_; try simp only [go_sem, *])
    | refine Awp.block ?_
    | (apply Awp.cond; (case hc => (simp only [go_sem, *] <;> rfl)); all_goals (intro hg; (try simp only [Bool.not_true, Bool.not_false, reduceCtorEq] at hg)))
    | refine Awp.seq ?_
    | (apply sl_a; (case hc => rfl); (case he => (simp only [go_sem, *] <;> rfl)); (case hu => (simp only [updL_nil, updL_cons] <;> rfl)); (case hl => (simp only [List.map_cons, List.map_nil] <;> rfl)); (case hp => first | trivial | omega))
    | (apply sl_ga; (case hb => rfl); (case hv => (simp only [go_sem, *] <;> rfl)); (case he => (simp only [go_sem, *] <;> rfl)); (case hu => (simp only [updL_nil, updL_cons] <;> rfl)); (case hl => (simp only [List.map_cons, List.map_nil] <;> rfl)); (case hp => first | trivial | omega))
    | (refine sl_nil (And.intro (by first | exact drawOk_of (by decide +kernel) | (simp only [List.map_cons, List.map_nil]; exact drawOk_of (by decide +kernel)) | decide) ?_)))
          all_goals (refine ⟨i + 1, by omega, by omega, ?_⟩; rw [hst, Bool.true_or]; clear hst; (apply Ghost.mk [] []; (case hdead => rfl); (case hinj => rfl); (case hV => (simp only [go_sem, *]) <;> (repeat' (first | refine And.intro ?_ ?_ | exact View.int (by first | rfl | omega | (simp; done) | (rw [wrap_i64] <;> (try simp only [Int.natCast_add]) <;> omega) | (simp [*]; done)) | exact .bp rfl (by decide) | exact .own rfl (by decide)))); (case hB => (simp only [go_sem, *]) <;> (repeat' (first | refine And.intro ?_ ?_ | exact ⟨_, rfl, BView.boxF rfl⟩ | exact ⟨_, rfl, .rowE (by first | rfl | omega | (simp; done) | (rw [wrap_i64] <;> (try simp only [Int.natCast_add]) <;> omega) | (simp [*]; done))⟩)))))
      · have hp : decide ((0 : Int) < (i : Int)) = false := decide_eq_false (by omega)
        clear ho4
        generalize L.getD i zeroSp = s at *
        have d1 : decide (s.b ≤ s.a) = false := decide_eq_false (by omega)
        have d2 : decide (s.a < x) = false := decide_eq_false (by have : x ≤ s.a := ho2; omega)
        have d3 : decide (y < s.b) = false := decide_eq_false (by have : s.b ≤ y := ho3; omega)
        clear ho1 ho2 ho3
        rw [show inS z s = (decide (s.a ≤ z) && decide (z < s.b)) from rfl] at hst
        generalize hT : (L.take i).any (inS z) = T at *
        cases T
        · cases e1 : decide (s.a ≤ z)
          · rw [e1] at hst
            repeat' (first
    | (apply Awp.sreg; (case hn => (simp only [List.length_cons, List.length_nil, Nat.reduceAdd] <;> rfl)))
    | (apply Awp.sdraw; (case hn => (simp only [List.length_cons, List.length_nil, Nat.reduceAdd] <;> rfl)))
    | (refine st_nil ?_)
    | (apply st_a; (case hc => rfl); (case he => (simp only [go_sem, *] <;> rfl)); (case hu => (simp only [updL_nil, updL_cons] <;> rfl)); (case hp => first | trivial))
    | (apply st_m; (case hc => rfl); (case hg => (simp only [go_sem, *] <;> rfl)); (case he => (intro hQz; (try simp only [wantB_t, wantB_f, Bool.and_eq_true, Bool.not_eq_true', Bool.not_true, Bool.not_false, and_true, true_and] at hQz); simp only [go_sem, *] <;> rfl)); (case hp => (intro hQz; (try simp only [wantB_t, wantB_f, Bool.and_eq_true, Bool.not_eq_true', Bool.or_eq_false_iff, decide_eq_true_eq, decide_eq_false_iff_not, beq_iff_eq, beq_eq_false_iff_ne, bne_iff_ne, bne_eq_false_iff_eq, Int.not_lt, Int.not_le, Int.ofNat_lt, Int.ofNat_le] at hQz); first | trivial | omega)))
    | (apply Awp.reg; (case hn => (simp only [List.length_cons, List.length_nil, Nat.reduceAdd] <;> rfl)))
    | (refine Awp.skip ?_; try simp only [go_sem, *])
    | refine Awp.block ?_
    | (apply Awp.cond; (case hc => (simp only [go_sem, *] <;> rfl)); all_goals (intro hg; (try simp only [Bool.not_true, Bool.not_false, reduceCtorEq] at hg)))
    | refine Awp.seq ?_
    | (apply sl_a; (case hc => rfl); (case he => (simp only [go_sem, *] <;> rfl)); (case hu => (simp only [updL_nil, updL_cons] <;> rfl)); (case hl => (simp only [List.map_cons, List.map_nil] <;> rfl)); (case hp => first | trivial | omega))
    | (apply sl_gn; (case hv => (simp only [go_sem, *] <;> rfl)); (case hbw => rfl))
    | (apply sl_ga; (case hb => rfl); (case hv => (simp only [go_sem, *] <;> rfl)); (case he => (simp only [go_sem, *] <;> rfl)); (case hu => (simp only [updL_nil, updL_cons] <;> rfl)); (case hl => (simp only [List.map_cons, List.map_nil] <;> rfl)); (case hp => first | trivial | omega))
    | (refine sl_nil (And.intro (by first | exact drawOk_of (by decide +kernel) | (simp only [List.map_cons, List.map_nil]; exact drawOk_of (by decide +kernel)) | decide) ?_)))
            all_goals (refine ⟨i + 1, by omega, by omega, ?_⟩; rw [hst]; clear hst; (apply Ghost.mk [] []; (case hdead => rfl); (case hinj => rfl); (case hV => (simp only [go_sem, *]) <;> (repeat' (first | refine And.intro ?_ ?_ | exact View.int (by first | rfl | omega | (simp; done) | (rw [wrap_i64] <;> (try simp only [Int.natCast_add]) <;> omega) | (simp [*]; done)) | exact .bp rfl (by decide) | exact .own rfl (by decide)))); (case hB => (simp only [go_sem, *]) <;> (repeat' (first | refine And.intro ?_ ?_ | exact ⟨_, rfl, BView.boxF rfl⟩ | exact ⟨_, rfl, .rowE (by first | rfl | omega | (simp; done) | (rw [wrap_i64] <;> (try simp only [Int.natCast_add]) <;> omega) | (simp [*]; done))⟩)))))
          · rw [e1] at hst
            cases e2 : decide (z < s.b)
            · rw [e2] at hst
              repeat' (first
    | (apply Awp.sreg; (case hn => (simp only [List.length_cons, List.length_nil, Nat.reduceAdd] <;> rfl)))
    | (apply Awp.sdraw; (case hn => (simp only [List.length_cons, List.length_nil, Nat.reduceAdd] <;> rfl)))
    | (refine st_nil ?_)
    | (apply st_a; (case hc => rfl); (case he => (simp only [go_sem, *] <;> rfl)); (case hu => (simp only [updL_nil, updL_cons] <;> rfl)); (case hp => first | trivial))
    | (apply st_m; (case hc => rfl); (case hg => (simp only [go_sem, *] <;> rfl)); (case he => (intro hQz; (try simp only [wantB_t, wantB_f, Bool.and_eq_true, Bool.not_eq_true', Bool.not_true, Bool.not_false, and_true, true_and] at hQz); simp only [go_sem, *] <;> rfl)); (case hp => (intro hQz; (try simp only [wantB_t, wantB_f, Bool.and_eq_true, Bool.not_eq_true', Bool.or_eq_false_iff, decide_eq_true_eq, decide_eq_false_iff_not, beq_iff_eq, beq_eq_false_iff_ne, bne_iff_ne, bne_eq_false_iff_eq, Int.not_lt, Int.not_le, Int.ofNat_lt, Int.ofNat_le] at hQz); first | trivial | omega)))
    | (apply Awp.reg; (case hn => (simp only [List.length_cons, List.length_nil, Nat.reduceAdd] <;> rfl)))
    | (refine Awp.skip ?_; try simp only [go_sem, *])
    | refine Awp.block ?_
    | (apply Awp.cond; (case hc => (simp only [go_sem, *] <;> rfl)); all_goals (intro hg; (try simp only [Bool.not_true, Bool.not_false, reduceCtorEq] at hg)))
    | refine Awp.seq ?_
    | (apply sl_a; (case hc => rfl); (case he => (simp only [go_sem, *] <;> rfl)); (case hu => (simp only [updL_nil, updL_cons] <;> rfl)); (case hl => (simp only [List.map_cons, List.map_nil] <;> rfl)); (case hp => first | trivial | omega))
    | (apply sl_gn; (case hv => (simp only [go_sem, *] <;> rfl)); (case hbw => rfl))
    | (apply sl_ga; (case hb => rfl); (case hv => (simp only [go_sem, *] <;> rfl)); (case he => (simp only [go_sem, *] <;> rfl)); (case hu => (simp only [updL_nil, updL_cons] <;> rfl)); (case hl => (simp only [List.map_cons, List.map_nil] <;> rfl)); (case hp => first | trivial | omega))
    | (refine sl_nil (And.intro (by first | exact drawOk_of (by decide +kernel) | (simp only [List.map_cons, List.map_nil]; exact drawOk_of (by decide +kernel)) | decide) ?_)))
              all_goals (refine ⟨i + 1, by omega, by omega, ?_⟩; rw [hst]; clear hst; (apply Ghost.mk [] []; (case hdead => rfl); (case hinj => rfl); (case hV => (simp only [go_sem, *]) <;> (repeat' (first | refine And.intro ?_ ?_ | exact View.int (by first | rfl | omega | (simp; done) | (rw [wrap_i64] <;> (try simp only [Int.natCast_add]) <;> omega) | (simp [*]; done)) | exact .bp rfl (by decide) | exact .own rfl (by decide)))); (case hB => (simp only [go_sem, *]) <;> (repeat' (first | refine And.intro ?_ ?_ | exact ⟨_, rfl, BView.boxF rfl⟩ | exact ⟨_, rfl, .rowE (by first | rfl | omega | (simp; done) | (rw [wrap_i64] <;> (try simp only [Int.natCast_add]) <;> omega) | (simp [*]; done))⟩)))))
            · rw [e2] at hst
              repeat' (first
    | (apply Awp.sreg; (case hn => (simp only [List.length_cons, List.length_nil, Nat.reduceAdd] <;> rfl)))
    | (apply Awp.sdraw; (case hn => (simp only [List.length_cons, List.length_nil, Nat.reduceAdd] <;> rfl)))
    | (refine st_nil ?_)
    | (apply st_a; (case hc => rfl); (case he => (simp only [go_sem, *] <;> rfl)); (case hu => (simp only [updL_nil, updL_cons] <;> rfl)); (case hp => first | trivial))
    | (apply st_m; (case hc => rfl); (case hg => (simp only [go_sem, *] <;> rfl)); (case he => (intro hQz; (try simp only [wantB_t, wantB_f, Bool.and_eq_true, Bool.not_eq_true', Bool.not_true, Bool.not_false, and_true, true_and] at hQz); simp only [go_sem, *] <;> rfl)); (case hp => (intro hQz; (try simp only [wantB_t, wantB_f, Bool.and_eq_true, Bool.not_eq_true', Bool.or_eq_false_iff, decide_eq_true_eq, decide_eq_false_iff_not, beq_iff_eq, beq_eq_false_iff_ne, bne_iff_ne, bne_eq_false_iff_eq, Int.not_lt, Int.not_le, Int.ofNat_lt, Int.ofNat_le] at hQz); first | trivial | omega)))
    | (apply Awp.reg; (case hn => (simp only [List.length_cons, List.length_nil, Nat.reduceAdd] <;> rfl)))
    | (refine Awp.skip ?_; try simp only [go_sem, *])
    | refine Awp.block ?_
    | (apply Awp.cond; (case hc => (simp only [go_sem, *] <;> rfl)); all_goals (intro hg; (try simp only [Bool.not_true, Bool.not_false, reduceCtorEq] at hg)))
    | refine Awp.seq ?_
    | (apply sl_a; (case hc => rfl); (case he => (simp only [go_sem, *] <;> rfl)); (case hu => (simp only [updL_nil, updL_cons] <;> rfl)); (case hl => (simp only [List.map_cons, List.map_nil] <;> rfl)); (case hp => first | trivial | omega))
    | (apply sl_gn; (case hv => (simp only [go_sem, *] <;> rfl)); (case hbw => rfl))
    | (apply sl_ga; (case hb => rfl); (case hv => (simp only [go_sem, *] <;> rfl)); (case he => (simp only [go_sem, *] <;> rfl)); (case hu => (simp only [updL_nil, updL_cons] <;> rfl)); (case hl => (simp only [List.map_cons, List.map_nil] <;> rfl)); (case hp => first | trivial | omega))
    | (refine sl_nil (And.intro (by first | exact drawOk_of (by decide +kernel) | (simp only [List.map_cons, List.map_nil]; exact drawOk_of (by decide +kernel)) | decide) ?_)))
              all_goals (refine ⟨i + 1, by omega, by omega, ?_⟩; rw [hst]; clear hst; (apply Ghost.mk [] []; (case hdead => rfl); (case hinj => rfl); (case hV => (simp only [go_sem, *]) <;> (repeat' (first | refine And.intro ?_ ?_ | exact View.int (by first | rfl | omega | (simp; done) | (rw [wrap_i64] <;> (try simp only [Int.natCast_add]) <;> omega) | (simp [*]; done)) | exact .bp rfl (by decide) | exact .own rfl (by decide)))); (case hB => (simp only [go_sem, *]) <;> (repeat' (first | refine And.intro ?_ ?_ | exact ⟨_, rfl, BView.boxF rfl⟩ | exact ⟨_, rfl, .rowE (by first | rfl | omega | (simp; done) | (rw [wrap_i64] <;> (try simp only [Int.natCast_add]) <;> omega) | (simp [*]; done))⟩)))))
        · repeat' (first
    | (apply Awp.sreg; (case hn => (simp only [List.length_cons, List.length_nil, Nat.reduceAdd] <;> rfl)))
    | (apply Awp.sdraw; (case hn => (simp only [List.length_cons, List.length_nil, Nat.reduceAdd] <;> rfl)))
    | (refine st_nil ?_)
    | (apply st_a; (case hc => rfl); (case he => (simp only [go_sem, *] <;> rfl)); (case hu => (simp only [updL_nil, updL_cons] <;> rfl)); (case hp => first | trivial))
    | (apply st_m; (case hc => rfl); (case hg => (simp only [go_sem, *] <;> rfl)); (case he => (intro hQz; (try simp only [wantB_t, wantB_f, Bool.and_eq_true, Bool.not_eq_true', Bool.not_true, Bool.not_false, and_true, true_and] at hQz); simp only [go_sem, *] <;> rfl)); (case hp => (intro hQz; (try simp only [wantB_t, wantB_f, Bool.and_eq_true, Bool.not_eq_true', Bool.or_eq_false_iff, decide_eq_true_eq, decide_eq_false_iff_not, beq_iff_eq, beq_eq_false_iff_ne, bne_iff_ne, bne_eq_false_iff_eq, Int.not_lt, Int.not_le, Int.ofNat_lt, Int.ofNat_le] at hQz); first | trivial)))
    | (apply Awp.reg; (case hn => (simp only [List.length_cons, List.length_nil, Nat.reduceAdd] <;> rfl)))
    | (refine Awp.skip ?_; try simp only [go_sem, *])
    | refine Awp.block ?_
    | (apply Awp.cond; (case hc => (simp only [go_sem, *] <;> rfl)); all_goals (intro hg; (try simp only [Bool.not_true, Bool.not_false, reduceCtorEq] at hg)))
    | refine Awp.seq ?_
    | (apply sl_a; (case hc => rfl); (case he => (simp only [go_sem, *] <;> rfl)); (case hu => (simp only [updL_nil, updL_cons] <;> rfl)); (case hl => (simp only [List.map_cons, List.map_nil] <;> rfl)); (case hp => first | trivial | omega))
    | (apply sl_gn; (case hv => (simp only [go_sem, *] <;> rfl)); (case hbw => rfl))
    | (apply sl_ga; (case hb => rfl); (case hv => (simp only [go_sem, *] <;> rfl)); (case he => (simp only [go_sem, *] <;> rfl)); (case hu => (simp only [updL_nil, updL_cons] <;> rfl)); (case hl => (simp only [List.map_cons, List.map_nil] <;> rfl)); (case hp => first | trivial | omega))
    | (refine sl_nil (And.intro (by first | exact drawOk_of (by decide +kernel) | (simp only [List.map_cons, List.map_nil]; exact drawOk_of (by decide +kernel)) | decide) ?_)))
          all_goals (refine ⟨i + 1, by omega, by omega, ?_⟩; rw [hst, Bool.true_or]; clear hst; (apply Ghost.mk [] []; (case hdead => rfl); (case hinj => rfl); (case hV => (simp only [go_sem, *]) <;> (repeat' (first | refine And.intro ?_ ?_ | exact View.int (by first | rfl | omega | (simp; done) | (rw [wrap_i64] <;> (try simp only [Int.natCast_add]) <;> omega) | (simp [*]; done)) | exact .bp rfl (by decide) | exact .own rfl (by decide)))); (case hB => (simp only [go_sem, *]) <;> (repeat' (first | refine And.intro ?_ ?_ | exact ⟨_, rfl, BView.boxF rfl⟩ | exact ⟨_, rfl, .rowE (by first | rfl | omega | (simp; done) | (rw [wrap_i64] <;> (try simp only [Int.natCast_add]) <;> omega) | (simp [*]; done))⟩)))))
    · have hlt' : ¬ (i : Int) < L.length := by omega
      have e1 : L.take i = L := List.take_of_length_le (by omega)
      rw [e1, hat']
      clear hok hat' c0 c1 e1
      dsimp only
      cases h1 : decide (x ≤ z)
      · repeat' (first
    | (apply Awp.sreg; (case hn => (simp only [List.length_cons, List.length_nil, Nat.reduceAdd] <;> rfl)))
    | (refine st_nil ?_)
    | (apply st_a; (case hc => rfl); (case he => (simp only [go_sem, *] <;> rfl)); (case hu => (simp only [updL_nil, updL_cons] <;> rfl)); (case hp => first | trivial))
    | (apply st_m; (case hc => rfl); (case hg => (simp only [go_sem, *] <;> rfl)); (case he => (intro hQz; (try simp only [wantB_t, wantB_f, Bool.and_eq_true, Bool.not_eq_true', Bool.not_true, Bool.not_false, and_true, true_and] at hQz); simp only [go_sem, *] <;> rfl)); (case hp => (intro hQz; (try simp only [wantB_t, wantB_f, Bool.and_eq_true, Bool.not_eq_true', Bool.or_eq_false_iff, decide_eq_true_eq, decide_eq_false_iff_not, beq_iff_eq, beq_eq_false_iff_ne, bne_iff_ne, bne_eq_false_iff_eq, Int.not_lt, Int.not_le, Int.ofNat_lt, Int.ofNat_le] at hQz); first | trivial)))
    | (apply st_mc; (case hop => rfl); (case hg => (simp only [go_sem, *] <;> rfl)); (case hc => (intro hQz; (try simp only [wantB_t, wantB_f, Bool.and_eq_true, Bool.not_eq_true', Bool.not_true, Bool.not_false, and_true, true_and] at hQz); simp only [go_sem, *] <;> rfl)); (case hl => (intro hQz; (try simp only [wantB_t, wantB_f, Bool.and_eq_true, Bool.not_eq_true', Bool.not_true, Bool.not_false, and_true, true_and] at hQz); simp only [go_sem, *] <;> rfl)); (case hn => (intro hQz; (try simp only [wantB_t, wantB_f, Bool.and_eq_true, Bool.not_eq_true', Bool.not_true, Bool.not_false, and_true, true_and] at hQz); simp only [go_sem, *] <;> rfl)); (case hp => intro hQz; first | exact c2 | (have hXz := c2; simp only [go_sem, *] at hXz; exact hXz)))
    | (apply st_mc; (case hop => rfl); (case hg => (simp only [go_sem, *] <;> rfl)); (case hc => (intro hQz; (try simp only [wantB_t, wantB_f, Bool.and_eq_true, Bool.not_eq_true', Bool.not_true, Bool.not_false, and_true, true_and] at hQz); simp only [go_sem, *] <;> rfl)); (case hl => (intro hQz; (try simp only [wantB_t, wantB_f, Bool.and_eq_true, Bool.not_eq_true', Bool.not_true, Bool.not_false, and_true, true_and] at hQz); simp only [go_sem, *] <;> rfl)); (case hn => (intro hQz; (try simp only [wantB_t, wantB_f, Bool.and_eq_true, Bool.not_eq_true', Bool.not_true, Bool.not_false, and_true, true_and] at hQz); simp only [go_sem, *] <;> rfl)); (case hp => intro hQz; first | exact awake_ok | (have hXz := awake_ok; simp only [go_sem, *] at hXz; exact hXz)))
    | (refine Awp.ret ?_; try simp only [go_sem, *])
    | (refine Awp.exit ?_; try simp only [go_sem, *])
    | (apply Awp.cond; (case hc => (simp only [go_sem, *] <;> rfl)); all_goals (intro hg; (try simp only [Bool.not_true, Bool.not_false, reduceCtorEq] at hg)))
    | refine Awp.seq ?_)
        all_goals repeat' (first | exact Lower.bool (by first | rfl | (simp only [true_and, Bool.true_and, Bool.false_and, Bool.and_true, Bool.and_false, Bool.true_or, Bool.false_or, reduceIte, Bool.false_eq_true, *]; done) | (simp only [true_and, reduceIte, Bool.false_eq_true, *] <;> rfl) | (simp [true_and]; done) | (simp_all [true_and]; done) | omega))
      cases h2 : decide (z < y)
      · repeat' (first
    | (apply Awp.sreg; (case hn => (simp only [List.length_cons, List.length_nil, Nat.reduceAdd] <;> rfl)))
    | (refine st_nil ?_)
    | (apply st_a; (case hc => rfl); (case he => (simp only [go_sem, *] <;> rfl)); (case hu => (simp only [updL_nil, updL_cons] <;> rfl)); (case hp => first | trivial))
    | (apply st_m; (case hc => rfl); (case hg => (simp only [go_sem, *] <;> rfl)); (case he => (intro hQz; (try simp only [wantB_t, wantB_f, Bool.and_eq_true, Bool.not_eq_true', Bool.not_true, Bool.not_false, and_true, true_and] at hQz); simp only [go_sem, *] <;> rfl)); (case hp => (intro hQz; (try simp only [wantB_t, wantB_f, Bool.and_eq_true, Bool.not_eq_true', Bool.or_eq_false_iff, decide_eq_true_eq, decide_eq_false_iff_not, beq_iff_eq, beq_eq_false_iff_ne, bne_iff_ne, bne_eq_false_iff_eq, Int.not_lt, Int.not_le, Int.ofNat_lt, Int.ofNat_le] at hQz); first | trivial)))
    | (apply st_mc; (case hop => rfl); (case hg => (simp only [go_sem, *] <;> rfl)); (case hc => (intro hQz; (try simp only [wantB_t, wantB_f, Bool.and_eq_true, Bool.not_eq_true', Bool.not_true, Bool.not_false, and_true, true_and] at hQz); simp only [go_sem, *] <;> rfl)); (case hl => (intro hQz; (try simp only [wantB_t, wantB_f, Bool.and_eq_true, Bool.not_eq_true', Bool.not_true, Bool.not_false, and_true, true_and] at hQz); simp only [go_sem, *] <;> rfl)); (case hn => (intro hQz; (try simp only [wantB_t, wantB_f, Bool.and_eq_true, Bool.not_eq_true', Bool.not_true, Bool.not_false, and_true, true_and] at hQz); simp only [go_sem, *] <;> rfl)); (case hp => intro hQz; first | exact c2 | (have hXz := c2; simp only [go_sem, *] at hXz; exact hXz)))
    | (apply st_mc; (case hop => rfl); (case hg => (simp only [go_sem, *] <;> rfl)); (case hc => (intro hQz; (try simp only [wantB_t, wantB_f, Bool.and_eq_true, Bool.not_eq_true', Bool.not_true, Bool.not_false, and_true, true_and] at hQz); simp only [go_sem, *] <;> rfl)); (case hl => (intro hQz; (try simp only [wantB_t, wantB_f, Bool.and_eq_true, Bool.not_eq_true', Bool.not_true, Bool.not_false, and_true, true_and] at hQz); simp only [go_sem, *] <;> rfl)); (case hn => (intro hQz; (try simp only [wantB_t, wantB_f, Bool.and_eq_true, Bool.not_eq_true', Bool.not_true, Bool.not_false, and_true, true_and] at hQz); simp only [go_sem, *] <;> rfl)); (case hp => intro hQz; first | exact awake_ok | (have hXz := awake_ok; simp only [go_sem, *] at hXz; exact hXz)))
    | (refine Awp.ret ?_; try simp only [go_sem, *])
    | (refine Awp.exit ?_; try simp only [go_sem, *])
    | (apply Awp.cond; (case hc => (simp only [go_sem, *] <;> rfl)); all_goals (intro hg; (try simp only [Bool.not_true, Bool.not_false, reduceCtorEq] at hg)))
    | refine Awp.seq ?_)
        all_goals repeat' (first | exact Lower.bool (by first | rfl | (simp only [true_and, Bool.true_and, Bool.false_and, Bool.and_true, Bool.and_false, Bool.true_or, Bool.false_or, reduceIte, Bool.false_eq_true, *]; done) | (simp only [true_and, reduceIte, Bool.false_eq_true, *] <;> rfl) | (simp [true_and]; done) | (simp_all [true_and]; done) | omega))
      cases B
      · repeat' (first
    | (apply Awp.sreg; (case hn => (simp only [List.length_cons, List.length_nil, Nat.reduceAdd] <;> rfl)))
    | (refine st_nil ?_)
    | (apply st_a; (case hc => rfl); (case he => (simp only [go_sem, *] <;> rfl)); (case hu => (simp only [updL_nil, updL_cons] <;> rfl)); (case hp => first | trivial))
    | (apply st_m; (case hc => rfl); (case hg => (simp only [go_sem, *] <;> rfl)); (case he => (intro hQz; (try simp only [wantB_t, wantB_f, Bool.and_eq_true, Bool.not_eq_true', Bool.not_true, Bool.not_false, and_true, true_and] at hQz); simp only [go_sem, *] <;> rfl)); (case hp => (intro hQz; (try simp only [wantB_t, wantB_f, Bool.and_eq_true, Bool.not_eq_true', Bool.or_eq_false_iff, decide_eq_true_eq, decide_eq_false_iff_not, beq_iff_eq, beq_eq_false_iff_ne, bne_iff_ne, bne_eq_false_iff_eq, Int.not_lt, Int.not_le, Int.ofNat_lt, Int.ofNat_le] at hQz); first | trivial)))
    | (apply st_mc; (case hop => rfl); (case hg => (simp only [go_sem, *] <;> rfl)); (case hc => (intro hQz; (try simp only [wantB_t, wantB_f, Bool.and_eq_true, Bool.not_eq_true', Bool.not_true, Bool.not_false, and_true, true_and] at hQz); simp only [go_sem, *] <;> rfl)); (case hl => (intro hQz; (try simp only [wantB_t, wantB_f, Bool.and_eq_true, Bool.not_eq_true', Bool.not_true, Bool.not_false, and_true, true_and] at hQz); simp only [go_sem, *] <;> rfl)); (case hn => (intro hQz; (try simp only [wantB_t, wantB_f, Bool.and_eq_true, Bool.not_eq_true', Bool.not_true, Bool.not_false, and_true, true_and] at hQz); simp only [go_sem, *] <;> rfl)); (case hp => intro hQz; first | exact c2 | (have hXz := c2; simp only [go_sem, *] at hXz; exact hXz)))
    | (apply st_mc; (case hop => rfl); (case hg => (simp only [go_sem, *] <;> rfl)); (case hc => (intro hQz; (try simp only [wantB_t, wantB_f, Bool.and_eq_true, Bool.not_eq_true', Bool.not_true, Bool.not_false, and_true, true_and] at hQz); simp only [go_sem, *] <;> rfl)); (case hl => (intro hQz; (try simp only [wantB_t, wantB_f, Bool.and_eq_true, Bool.not_eq_true', Bool.not_true, Bool.not_false, and_true, true_and] at hQz); simp only [go_sem, *] <;> rfl)); (case hn => (intro hQz; (try simp only [wantB_t, wantB_f, Bool.and_eq_true, Bool.not_eq_true', Bool.not_true, Bool.not_false, and_true, true_and] at hQz); simp only [go_sem, *] <;> rfl)); (case hp => intro hQz; first | exact awake_ok | (have hXz := awake_ok; simp only [go_sem, *] at hXz; exact hXz)))
    | (refine Awp.ret ?_; try simp only [go_sem, *])
    | (refine Awp.exit ?_; try simp only [go_sem, *])
    | (apply Awp.cond; (case hc => (simp only [go_sem, *] <;> rfl)); all_goals (intro hg; (try simp only [Bool.not_true, Bool.not_false, reduceCtorEq] at hg)))
    | refine Awp.seq ?_)
        all_goals repeat' (first | exact Lower.bool (by first | rfl | (simp only [true_and, Bool.true_and, Bool.false_and, Bool.and_true, Bool.and_false, Bool.true_or, Bool.false_or, reduceIte, Bool.false_eq_true, *]; done) | (simp only [true_and, reduceIte, Bool.false_eq_true, *] <;> rfl) | (simp [true_and]; done) | (simp_all [true_and]; done) | omega))
      · repeat' (first
    | (apply Awp.sreg; (case hn => (simp only [List.length_cons, List.length_nil, Nat.reduceAdd] <;> rfl)))
    | (refine st_nil ?_)
    | (apply st_a; (case hc => rfl); (case he => (simp only [go_sem, *] <;> rfl)); (case hu => (simp only [updL_nil, updL_cons] <;> rfl)); (case hp => first | trivial))
    | (apply st_m; (case hc => rfl); (case hg => (simp only [go_sem, *] <;> rfl)); (case he => (intro hQz; (try simp only [wantB_t, wantB_f, Bool.and_eq_true, Bool.not_eq_true', Bool.not_true, Bool.not_false, and_true, true_and] at hQz); simp only [go_sem, *] <;> rfl)); (case hp => (intro hQz; (try simp only [wantB_t, wantB_f, Bool.and_eq_true, Bool.not_eq_true', Bool.or_eq_false_iff, decide_eq_true_eq, decide_eq_false_iff_not, beq_iff_eq, beq_eq_false_iff_ne, bne_iff_ne, bne_eq_false_iff_eq, Int.not_lt, Int.not_le, Int.ofNat_lt, Int.ofNat_le] at hQz); first | trivial)))
    | (apply st_mc; (case hop => rfl); (case hg => (simp only [go_sem, *] <;> rfl)); (case hc => (intro hQz; (try simp only [wantB_t, wantB_f, Bool.and_eq_true, Bool.not_eq_true', Bool.not_true, Bool.not_false, and_true, true_and] at hQz); simp only [go_sem, *] <;> rfl)); (case hl => (intro hQz; (try simp only [wantB_t, wantB_f, Bool.and_eq_true, Bool.not_eq_true', Bool.not_true, Bool.not_false, and_true, true_and] at hQz); simp only [go_sem, *] <;> rfl)); (case hn => (intro hQz; (try simp only [wantB_t, wantB_f, Bool.and_eq_true, Bool.not_eq_true', Bool.not_true, Bool.not_false, and_true, true_and] at hQz); simp only [go_sem, *] <;> rfl)); (case hp => intro hQz; first | exact c2 | (have hXz := c2; simp only [go_sem, *] at hXz; exact hXz)))
    | (apply st_mc; (case hop => rfl); (case hg => (simp only [go_sem, *] <;> rfl)); (case hc => (intro hQz; (try simp only [wantB_t, wantB_f, Bool.and_eq_true, Bool.not_eq_true', Bool.not_true, Bool.not_false, and_true, true_and] at hQz); simp only [go_sem, *] <;> rfl)); (case hl => (intro hQz; (try simp only [wantB_t, wantB_f, Bool.and_eq_true, Bool.not_eq_true', Bool.not_true, Bool.not_false, and_true, true_and] at hQz); simp only [go_sem, *] <;> rfl)); (case hn => (intro hQz; (try simp only [wantB_t, wantB_f, Bool.and_eq_true, Bool.not_eq_true', Bool.not_true, Bool.not_false, and_true, true_and] at hQz); simp only [go_sem, *] <;> rfl)); (case hp => intro hQz; first | exact awake_ok | (have hXz := awake_ok; simp only [go_sem, *] at hXz; exact hXz)))
    | (refine Awp.ret ?_; try simp only [go_sem, *])
    | (refine Awp.exit ?_; try simp only [go_sem, *])
    | (apply Awp.cond; (case hc => (simp only [go_sem, *] <;> rfl)); all_goals (intro hg; (try simp only [Bool.not_true, Bool.not_false, reduceCtorEq] at hg)))
    | refine Awp.seq ?_)
        all_goals repeat' (first | exact Lower.bool (by first | rfl | (simp only [true_and, Bool.true_and, Bool.false_and, Bool.and_true, Bool.and_false, Bool.true_or, Bool.false_or, reduceIte, Bool.false_eq_true, *]; done) | (simp only [true_and, reduceIte, Bool.false_eq_true, *] <;> rfl) | (simp [true_and]; done) | (simp_all [true_and]; done) | omega))
end Go.Proofs
end
section
set_option linter.unusedVariables false
set_option linter.unusedSimpArgs false
namespace Go.Proofs
open Go Go.Ab
set_option maxHeartbeats 8000000
set_option maxRecDepth 100000
set_option linter.unusedSimpArgs false
set_option linter.unusedVariables false
attribute [local irreducible] Awp aops aopsL Go.Ab.Pure PureOwn

def insR (p : Pt) : List Pt → List Pt
  | [] => [p]
  | x :: r => if gtId p.id x = true then p :: x :: r else x :: insR p r
def stepP (p : Pt) (r : List Pt × Bool) (x : Pt) : List Pt × Bool := if (!r.2 && gtId p.id x) = true then (r.1 ++ [p] ++ [x], true) else (r.1 ++ [x], r.2)
def finP (p : Pt) (r : List Pt × Bool) : List Pt := if r.2 = true then r.1 else r.1 ++ [p]
theorem stepP_done (p : Pt) : ∀ (o acc : List Pt), o.foldl (stepP p) (acc, true) = (acc ++ o, true)
  | [], acc => by simp
  | x :: o, acc => by
    rw [List.foldl_cons]
    have e : stepP p (acc, true) x = (acc ++ [x], true) := rfl
    rw [e, stepP_done p o, List.append_assoc]
    rfl
theorem insR_fold (p : Pt) : ∀ (o acc : List Pt), finP p (o.foldl (stepP p) (acc, false)) = acc ++ insR p o
  | [], acc => rfl
  | x :: o, acc => by
    rw [List.foldl_cons]
    unfold insR
    cases h : gtId p.id x
    · have e : stepP p (acc, false) x = (acc ++ [x], false) := by unfold stepP; rw [h]; rfl
      rw [e, insR_fold p o, List.append_assoc]
      rfl
    · have e : stepP p (acc, false) x = (acc ++ [p] ++ [x], true) := by unfold stepP; rw [h]; rfl
      rw [e, stepP_done]
      simp [finP]
theorem posP_eq (s : ByteArray) (l : List Pt) : posP s l = l.findIdx (gtId s) := by
  unfold posP idxF
  by_cases h : l.findIdx (gtId s) < l.length
  · rw [if_pos h, if_neg (by omega), Int.toNat_natCast]
  · rw [if_neg h, if_pos (by decide)]
    have := List.findIdx_le_length (xs := l) (p := gtId s)
    omega
theorem insR_ins (p : Pt) : ∀ l : List Pt, insR p l = insP l (posP p.id l) p
  | [] => rfl
  | x :: l => by
    rw [posP_eq]
    unfold insR
    rw [List.findIdx_cons]
    cases h : gtId p.id x
    · rw [insR_ins p l, posP_eq]
      rfl
    · rfl
theorem stepP_len (p : Pt) : ∀ (o : List Pt) (r : List Pt × Bool), (o.foldl (stepP p) r).1.length ≤ r.1.length + 2 * o.length
  | [], r => by simp
  | x :: o, r => by
    rw [List.foldl_cons]
    have h := stepP_len p o (stepP p r x)
    have h2 : (stepP p r x).1.length ≤ r.1.length + 2 := by
      unfold stepP
      split <;> simp
    simp only [List.length_cons]
    omega
theorem foldl_take {α β : Type} (f : β → α → β) (b : β) (l : List α) (d : α) (i : Nat) (h : i < l.length) : (l.take (i + 1)).foldl f b = f ((l.take i).foldl f b) (l.getD i d) := by
  rw [take_snoc l d i h, List.foldl_append]
  rfl
theorem radd_ok (l : List Pt) (p : Pt) (now : Int) (hl : l.length < 10000) (hp : p.id.size < 1000000) :
    Pure Tryz.prog 13 [.sl (pts l), p.av, .v (.int .i64 now)] (.tup [.sl (pts (addE l p now).1), .v (.int .i64 (addE l p now).2)]) := by
  have c0 := risid_ok p.id hp
  clear hp
  unfold addE
  cases h1 : idB p.id
  · rw [h1] at c0
    rw [if_pos (by decide)]
    refine fn_pure Tryz.F13 (Nat.le_of_ble_eq_true rfl) ?_; unfold Tryz.ac13
    repeat' (first
    | (apply Awp.sreg; (case hn => (simp only [List.length_cons, List.length_nil, Nat.reduceAdd] <;> rfl)))
    | (refine st_nil ?_)
    | (apply st_a; (case hc => rfl); (case he => (simp only [go_sem, *] <;> rfl)); (case hu => (simp only [updL_nil, updL_cons] <;> rfl)); (case hp => first | trivial))
    | (apply st_c; (case hc => (simp only [go_sem, *] <;> rfl)); (case hl => (simp only [go_sem, *] <;> rfl)); (case hn => (simp only [go_sem, *] <;> rfl)); (case hp => first | exact c0 | (have hXz := c0; simp only [go_sem, *] at hXz; exact hXz)))
    | (refine Awp.ret ?_; try simp only [go_sem, *])
    | (apply Awp.cond; (case hc => (simp only [go_sem, *] <;> rfl)); all_goals (intro hg; (try simp only [Bool.not_true, Bool.not_false, reduceCtorEq] at hg)))
    | refine Awp.seq ?_)
    all_goals repeat' (first | exact Lower.int (by first | rfl | (simp only [true_and, Bool.true_and, Bool.false_and, Bool.and_true, Bool.and_false, Bool.true_or, Bool.false_or, reduceIte, Bool.false_eq_true, *]; done) | (simp only [true_and, reduceIte, Bool.false_eq_true, *] <;> rfl) | (simp [true_and]; done) | (simp_all [true_and]; done) | omega) | exact Lower.nilE (by first | rfl | (simp only [true_and, Bool.true_and, Bool.false_and, Bool.and_true, Bool.and_false, Bool.true_or, Bool.false_or, reduceIte, Bool.false_eq_true, *]; done) | (simp only [true_and, reduceIte, Bool.false_eq_true, *] <;> rfl) | (simp [true_and]; done) | (simp_all [true_and]; done) | omega) | refine Lower.tupF ?_ | refine All2.cons ?_ ?_ | exact All2.nil)
  rw [h1] at c0
  rw [if_neg (by decide)]
  cases h2 : badK p.k
  case true =>
    rw [if_pos rfl]
    unfold badK at h2
    refine fn_pure Tryz.F13 (Nat.le_of_ble_eq_true rfl) ?_; unfold Tryz.ac13
    repeat' (first
    | (apply Awp.sreg; (case hn => (simp only [List.length_cons, List.length_nil, Nat.reduceAdd] <;> rfl)))
    | (refine st_nil ?_)
    | (apply st_a; (case hc => rfl); (case he => (simp only [go_sem, *] <;> rfl)); (case hu => (simp only [updL_nil, updL_cons] <;> rfl)); (case hp => first | trivial))
    | (apply st_m; (case hc => rfl); (case hg => (simp only [go_sem, *] <;> rfl)); (case he => (intro hQz; (try simp only [wantB_t, wantB_f, Bool.and_eq_true, Bool.not_eq_true', Bool.not_true, Bool.not_false, and_true, true_and] at hQz); simp only [go_sem, *] <;> rfl)); (case hp => (intro hQz; (try simp only [wantB_t, wantB_f, Bool.and_eq_true, Bool.not_eq_true', Bool.or_eq_false_iff, decide_eq_true_eq, decide_eq_false_iff_not, beq_iff_eq, beq_eq_false_iff_ne, bne_iff_ne, bne_eq_false_iff_eq, Int.not_lt, Int.not_le, Int.ofNat_lt, Int.ofNat_le] at hQz); first | trivial)))
    | (apply st_c; (case hc => (simp only [go_sem, *] <;> rfl)); (case hl => (simp only [go_sem, *] <;> rfl)); (case hn => (simp only [go_sem, *] <;> rfl)); (case hp => first | exact c0 | (have hXz := c0; simp only [go_sem, *] at hXz; exact hXz)))
    | (refine Awp.ret ?_; try simp only [go_sem, *])
    | (refine Awp.skip ?_; try simp only [go_sem, *])
    | (apply Awp.cond; (case hc => (simp only [go_sem, *] <;> rfl)); all_goals (intro hg; (try simp only [Bool.not_true, Bool.not_false, reduceCtorEq] at hg)))
    | refine Awp.seq ?_)
    all_goals (try (exfalso; simp only [Bool.or_true, Bool.true_or, Bool.or_false, Bool.false_or, Bool.and_true, Bool.true_and, Bool.and_false, Bool.false_and, Bool.not_true, Bool.not_false, reduceCtorEq, *] at h2; done))
    all_goals repeat' (first | exact Lower.int (by first | rfl | (simp only [true_and, Bool.true_and, Bool.false_and, Bool.and_true, Bool.and_false, Bool.true_or, Bool.false_or, reduceIte, Bool.false_eq_true, *]; done) | (simp only [true_and, reduceIte, Bool.false_eq_true, *] <;> rfl) | (simp [true_and]; done) | (simp_all [true_and]; done) | omega) | exact Lower.nilE (by first | rfl | (simp only [true_and, Bool.true_and, Bool.false_and, Bool.and_true, Bool.and_false, Bool.true_or, Bool.false_or, reduceIte, Bool.false_eq_true, *]; done) | (simp only [true_and, reduceIte, Bool.false_eq_true, *] <;> rfl) | (simp [true_and]; done) | (simp_all [true_and]; done) | omega) | refine Lower.tupF ?_ | refine All2.cons ?_ ?_ | exact All2.nil)
  rw [if_neg (by decide)]
  unfold badK at h2
  cases h3 : badT p.a p.b now
  case true =>
    rw [if_pos rfl]
    unfold badT at h3
    refine fn_pure Tryz.F13 (Nat.le_of_ble_eq_true rfl) ?_; unfold Tryz.ac13
    repeat' (first
    | (apply Awp.sreg; (case hn => (simp only [List.length_cons, List.length_nil, Nat.reduceAdd] <;> rfl)))
    | (refine st_nil ?_)
    | (apply st_a; (case hc => rfl); (case he => (simp only [go_sem, *] <;> rfl)); (case hu => (simp only [updL_nil, updL_cons] <;> rfl)); (case hp => first | trivial))
    | (apply st_m; (case hc => rfl); (case hg => (simp only [go_sem, *] <;> rfl)); (case he => (intro hQz; (try simp only [wantB_t, wantB_f, Bool.and_eq_true, Bool.not_eq_true', Bool.not_true, Bool.not_false, and_true, true_and] at hQz); simp only [go_sem, *] <;> rfl)); (case hp => (intro hQz; (try simp only [wantB_t, wantB_f, Bool.and_eq_true, Bool.not_eq_true', Bool.or_eq_false_iff, decide_eq_true_eq, decide_eq_false_iff_not, beq_iff_eq, beq_eq_false_iff_ne, bne_iff_ne, bne_eq_false_iff_eq, Int.not_lt, Int.not_le, Int.ofNat_lt, Int.ofNat_le] at hQz); first | trivial)))
    | (apply st_c; (case hc => (simp only [go_sem, *] <;> rfl)); (case hl => (simp only [go_sem, *] <;> rfl)); (case hn => (simp only [go_sem, *] <;> rfl)); (case hp => first | exact c0 | (have hXz := c0; simp only [go_sem, *] at hXz; exact hXz)))
    | (refine Awp.ret ?_; try simp only [go_sem, *])
    | (refine Awp.skip ?_; try simp only [go_sem, *])
    | (apply Awp.cond; (case hc => (simp only [go_sem, *] <;> rfl)); all_goals (intro hg; (try simp only [Bool.not_true, Bool.not_false, reduceCtorEq] at hg)))
    | refine Awp.seq ?_)
    all_goals (try (exfalso; simp only [Bool.or_true, Bool.true_or, Bool.or_false, Bool.false_or, Bool.and_true, Bool.true_and, Bool.and_false, Bool.false_and, Bool.not_true, Bool.not_false, reduceCtorEq, *] at h2; done))
    all_goals (try (exfalso; simp only [Bool.or_true, Bool.true_or, Bool.or_false, Bool.false_or, Bool.and_true, Bool.true_and, Bool.and_false, Bool.false_and, Bool.not_true, Bool.not_false, reduceCtorEq, *] at h3; done))
    all_goals repeat' (first | exact Lower.int (by first | rfl | (simp only [true_and, Bool.true_and, Bool.false_and, Bool.and_true, Bool.and_false, Bool.true_or, Bool.false_or, reduceIte, Bool.false_eq_true, *]; done) | (simp only [true_and, reduceIte, Bool.false_eq_true, *] <;> rfl) | (simp [true_and]; done) | (simp_all [true_and]; done) | omega) | exact Lower.nilE (by first | rfl | (simp only [true_and, Bool.true_and, Bool.false_and, Bool.and_true, Bool.and_false, Bool.true_or, Bool.false_or, reduceIte, Bool.false_eq_true, *]; done) | (simp only [true_and, reduceIte, Bool.false_eq_true, *] <;> rfl) | (simp [true_and]; done) | (simp_all [true_and]; done) | omega) | refine Lower.tupF ?_ | refine All2.cons ?_ ?_ | exact All2.nil)
  rw [if_neg (by decide)]
  unfold badT at h3
  rw [← insR_ins, ← List.nil_append (insR p l), ← insR_fold]
  refine fn_pure Tryz.F13 (Nat.le_of_ble_eq_true rfl) ?_; unfold Tryz.ac13
  repeat' (first
    | (apply Awp.sreg; (case hn => (simp only [List.length_cons, List.length_nil, Nat.reduceAdd] <;> rfl)))
    | (refine st_nil ?_)
    | (apply st_a; (case hc => rfl); (case he => (simp only [go_sem, *] <;> rfl)); (case hu => (simp only [updL_nil, updL_cons] <;> rfl)); (case hp => first | trivial))
    | (apply st_m; (case hc => rfl); (case hg => (simp only [go_sem, *] <;> rfl)); (case he => (intro hQz; (try simp only [wantB_t, wantB_f, Bool.and_eq_true, Bool.not_eq_true', Bool.not_true, Bool.not_false, and_true, true_and] at hQz); simp only [go_sem, *] <;> rfl)); (case hp => (intro hQz; (try simp only [wantB_t, wantB_f, Bool.and_eq_true, Bool.not_eq_true', Bool.or_eq_false_iff, decide_eq_true_eq, decide_eq_false_iff_not, beq_iff_eq, beq_eq_false_iff_ne, bne_iff_ne, bne_eq_false_iff_eq, Int.not_lt, Int.not_le, Int.ofNat_lt, Int.ofNat_le] at hQz); first | trivial)))
    | (apply st_c; (case hc => (simp only [go_sem, *] <;> rfl)); (case hl => (simp only [go_sem, *] <;> rfl)); (case hn => (simp only [go_sem, *] <;> rfl)); (case hp => first | exact c0 | (have hXz := c0; simp only [go_sem, *] at hXz; exact hXz)))
    | (refine Awp.skip ?_; try simp only [go_sem, *])
    | refine Awp.block ?_
    | (apply Awp.cond; (case hc => (simp only [go_sem, *] <;> rfl)); all_goals (intro hg; (try simp only [Bool.not_true, Bool.not_false, reduceCtorEq] at hg)))
    | refine Awp.seq ?_)
  all_goals (try (exfalso; simp only [Bool.or_true, Bool.true_or, Bool.or_false, Bool.false_or, Bool.and_true, Bool.true_and, Bool.and_false, Bool.false_and, Bool.not_true, Bool.not_false, reduceCtorEq, *] at h2; done))
  all_goals (try (exfalso; simp only [Bool.or_true, Bool.true_or, Bool.or_false, Bool.false_or, Bool.and_true, Bool.true_and, Bool.and_false, Bool.false_and, Bool.not_true, Bool.not_false, reduceCtorEq, *] at h3; done))
  clear c0 h1 h2 h3
  refine Awp.loop (fun i : Nat => i ≤ l.length ∧ ∀ j, j < i → sameId p.id (l.getD j zeroPt) = false) 200 (fun i => mkS [(0, .sl (pts l)), (4, .bp 0 0), (8, .v (.int .i64 i))] [(0, .box p.cells)]) (fun i => l.length - i) 0 (by simp) ?_ ?_
  · (apply Ghost.mk [(0, 0)] []; (case hdead => rfl); (case hinj => rfl); (case hV => (simp only [go_sem, *]) <;> (repeat' (first | refine And.intro ?_ ?_ | exact View.int (by first | rfl | omega | (simp; done) | (rw [wrap_i64] <;> (try simp only [Int.natCast_add]) <;> omega) | (simp [*]; done)) | exact .bp rfl (by decide)))); (case hB => (simp only [go_sem, *]) <;> (repeat' (first | exact ⟨_, rfl, BView.boxF rfl⟩))))
  · intro i ⟨hi, hj⟩
    by_cases hlt : i < l.length
    · have hlt' : (i : Int) < l.length := by omega
      have hat := pts_at l i hlt
      have hz : ((l.getD i zeroPt).cells).length = 4 := rfl
      cases hv : sameId p.id (l.getD i zeroPt)
      · have hnx := ltSucc (P := fun j => sameId p.id (l.getD j zeroPt) = false) hj hv
        clear hj
        unfold sameId at hv
        repeat' (first
    | (apply Awp.sreg; (case hn => (simp only [List.length_cons, List.length_nil, Nat.reduceAdd] <;> rfl)))
    | (apply Awp.sdraw; (case hn => (simp only [List.length_cons, List.length_nil, Nat.reduceAdd] <;> rfl)))
    | (refine st_nil ?_)
    | (apply st_a; (case hc => rfl); (case he => (simp only [go_sem, *] <;> rfl)); (case hu => (simp only [updL_nil, updL_cons] <;> rfl)); (case hp => first | trivial))
    | (apply Awp.reg; (case hn => (simp only [List.length_cons, List.length_nil, Nat.reduceAdd] <;> rfl)))
    | (refine Awp.skip ?_; try simp only [go_sem, *])
    | refine Awp.block ?_
    | (apply Awp.cond; (case hc => (simp only [go_sem, *] <;> rfl)); all_goals (intro hg; (try simp only [Bool.not_true, Bool.not_false, reduceCtorEq] at hg)))
    | refine Awp.seq ?_
    | (apply sl_a; (case hc => rfl); (case he => (simp only [go_sem, *] <;> rfl)); (case hu => (simp only [updL_nil, updL_cons] <;> rfl)); (case hl => (simp only [List.map_cons, List.map_nil] <;> rfl)); (case hp => first | trivial | omega))
    | (refine sl_nil (And.intro (by first | exact drawOk_of (by decide +kernel) | (simp only [List.map_cons, List.map_nil]; exact drawOk_of (by decide +kernel)) | decide) ?_)))
        all_goals (refine ⟨i + 1, ⟨by omega, hnx⟩, by omega, ?_⟩; clear hnx; (apply Ghost.mk [(0, 0)] []; (case hdead => rfl); (case hinj => rfl); (case hV => (simp only [go_sem, *]) <;> (repeat' (first | refine And.intro ?_ ?_ | exact View.int (by first | rfl | omega | (simp; done) | (rw [wrap_i64] <;> (try simp only [Int.natCast_add]) <;> omega) | (simp [*]; done)) | exact .bp rfl (by decide)))); (case hB => (simp only [go_sem, *]) <;> (repeat' (first | exact ⟨_, rfl, BView.boxF rfl⟩)))))
      · have hf := any_in (p := sameId p.id) hlt hv
        rw [hf, if_pos rfl]
        clear hj hf
        unfold sameId at hv
        repeat' (first
    | (apply Awp.sreg; (case hn => (simp only [List.length_cons, List.length_nil, Nat.reduceAdd] <;> rfl)))
    | (apply Awp.sdraw; (case hn => (simp only [List.length_cons, List.length_nil, Nat.reduceAdd] <;> rfl)))
    | (refine st_nil ?_)
    | (apply st_a; (case hc => rfl); (case he => (simp only [go_sem, *] <;> rfl)); (case hu => (simp only [updL_nil, updL_cons] <;> rfl)); (case hp => first | trivial))
    | (refine Awp.ret ?_; try simp only [go_sem, *])
    | (refine Awp.skip ?_; try simp only [go_sem, *])
    | refine Awp.block ?_
    | (apply Awp.cond; (case hc => (simp only [go_sem, *] <;> rfl)); all_goals (intro hg; (try simp only [Bool.not_true, Bool.not_false, reduceCtorEq] at hg)))
    | refine Awp.seq ?_
    | (apply sl_a; (case hc => rfl); (case he => (simp only [go_sem, *] <;> rfl)); (case hu => (simp only [updL_nil, updL_cons] <;> rfl)); (case hl => (simp only [List.map_cons, List.map_nil] <;> rfl)); (case hp => first | trivial | omega))
    | (refine sl_nil (And.intro (by first | exact drawOk_of (by decide +kernel) | (simp only [List.map_cons, List.map_nil]; exact drawOk_of (by decide +kernel)) | decide) ?_)))
        all_goals repeat' (first | exact Lower.int (by first | rfl | (simp only [true_and, Bool.true_and, Bool.false_and, Bool.and_true, Bool.and_false, Bool.true_or, Bool.false_or, reduceIte, Bool.false_eq_true, *]; done) | (simp only [true_and, reduceIte, Bool.false_eq_true, *] <;> rfl) | (simp [true_and]; done) | (simp_all [true_and]; done) | omega) | exact Lower.nilE (by first | rfl | (simp only [true_and, Bool.true_and, Bool.false_and, Bool.and_true, Bool.and_false, Bool.true_or, Bool.false_or, reduceIte, Bool.false_eq_true, *]; done) | (simp only [true_and, reduceIte, Bool.false_eq_true, *] <;> rfl) | (simp [true_and]; done) | (simp_all [true_and]; done) | omega) | refine Lower.tupF ?_ | refine All2.cons ?_ ?_ | exact All2.nil)
    · have hlt' : ¬ (i : Int) < l.length := by omega
      have hf := any_end (p := sameId p.id) (Nat.le_of_not_lt hlt) hj
      rw [hf, if_neg (by decide)]
      clear hj hf
      by_cases h5 : 64 ≤ l.length
      · rw [if_pos h5]
        have h5' : (64 : Int) ≤ l.length := by omega
        repeat' (first
    | (apply Awp.sreg; (case hn => (simp only [List.length_cons, List.length_nil, Nat.reduceAdd] <;> rfl)))
    | (refine st_nil ?_)
    | (apply st_a; (case hc => rfl); (case he => (simp only [go_sem, *] <;> rfl)); (case hu => (simp only [updL_nil, updL_cons] <;> rfl)); (case hp => first | trivial))
    | (refine Awp.ret ?_; try simp only [go_sem, *])
    | (refine Awp.exit ?_; try simp only [go_sem, *])
    | (apply Awp.cond; (case hc => (simp only [go_sem, *] <;> rfl)); all_goals (intro hg; (try simp only [Bool.not_true, Bool.not_false, reduceCtorEq] at hg)))
    | refine Awp.seq ?_)
        all_goals repeat' (first | exact Lower.int (by first | rfl | (simp only [true_and, Bool.true_and, Bool.false_and, Bool.and_true, Bool.and_false, Bool.true_or, Bool.false_or, reduceIte, Bool.false_eq_true, *]; done) | (simp only [true_and, reduceIte, Bool.false_eq_true, *] <;> rfl) | (simp [true_and]; done) | (simp_all [true_and]; done) | omega) | exact Lower.nilE (by first | rfl | (simp only [true_and, Bool.true_and, Bool.false_and, Bool.and_true, Bool.and_false, Bool.true_or, Bool.false_or, reduceIte, Bool.false_eq_true, *]; done) | (simp only [true_and, reduceIte, Bool.false_eq_true, *] <;> rfl) | (simp [true_and]; done) | (simp_all [true_and]; done) | omega) | refine Lower.tupF ?_ | refine All2.cons ?_ ?_ | exact All2.nil)
      rw [if_neg h5]
      have h5' : ¬ (64 : Int) ≤ l.length := by omega
      clear hi hlt
      repeat' (first
    | (apply Awp.sreg; (case hn => (simp only [List.length_cons, List.length_nil, Nat.reduceAdd] <;> rfl)))
    | (refine st_nil ?_)
    | (apply st_a; (case hc => rfl); (case he => (simp only [go_sem, *] <;> rfl)); (case hu => (simp only [updL_nil, updL_cons] <;> rfl)); (case hp => first | trivial))
    | (refine Awp.skip ?_; try simp only [go_sem, *])
    | (refine Awp.exit ?_; try simp only [go_sem, *])
    | refine Awp.block ?_
    | (apply Awp.cond; (case hc => (simp only [go_sem, *] <;> rfl)); all_goals (intro hg; (try simp only [Bool.not_true, Bool.not_false, reduceCtorEq] at hg)))
    | refine Awp.seq ?_)
      clear h5 h5' hlt'
      refine Awp.loop (fun i : Nat => i ≤ l.length) 300 (fun i => mkS [(0, .sl (pts l)), (4, .bp 0 0), (9, .own 1), (10, .v (.bool ((l.take i).foldl (stepP p) ([], false)).2)), (11, .v (.int .i64 i))] [(0, .box p.cells), (1, .row (pts ((l.take i).foldl (stepP p) ([], false)).1) 4 26)]) (fun i => l.length - i) 0 (by omega) ?_ ?_
      · refine Ghost.trans (Ghost.name 9 4 26 rfl (by decide)) ?_
        have e1 : (l.take 0).foldl (stepP p) ([], false) = ([], false) := rfl
        rw [e1]
        (apply Ghost.mk [(0, 0), (1, 210)] []; (case hdead => rfl); (case hinj => rfl); (case hV => (simp only [go_sem, *]) <;> (repeat' (first | refine And.intro ?_ ?_ | exact View.int (by first | rfl | omega | (simp; done) | (rw [wrap_i64] <;> (try simp only [Int.natCast_add]) <;> omega) | (simp [*]; done)) | exact .bp rfl (by decide) | exact .own rfl (by decide)))); (case hB => (simp only [go_sem, *]) <;> (repeat' (first | refine And.intro ?_ ?_ | exact ⟨_, rfl, BView.boxF rfl⟩ | exact ⟨_, rfl, .rowE (by first | rfl | omega | (simp; done) | (rw [wrap_i64] <;> (try simp only [Int.natCast_add]) <;> omega) | (simp [*]; done))⟩))))
      · intro i hi
        by_cases hlt : i < l.length
        · have hlt' : (i : Int) < l.length := by omega
          have hat := pts_at l i hlt
          have hz : ((l.getD i zeroPt).cells).length = 4 := rfl
          have hst := foldl_take (stepP p) ([], false) l zeroPt i hlt
          have hrl := stepP_len p (l.take i) ([], false)
          have htl : (l.take i).length = i := List.length_take_of_le hi
          rw [htl] at hrl
          simp only [List.length_nil] at hrl
          obtain ⟨⟨R, d⟩, hR⟩ : ∃ R, (l.take i).foldl (stepP p) ([], false) = R := ⟨_, rfl⟩
          rw [hR] at hst hrl
          rw [hR]
          clear hR htl
          generalize l.getD i zeroPt = x at *
          dsimp only at hrl ⊢
          cases d
          · cases hA : gtId p.id x
            · rw [show stepP p (R, false) x = (R ++ [x], false) by unfold stepP; rw [hA]; rfl] at hst
              unfold gtId at hA
              repeat' (first
    | (apply Awp.sreg; (case hn => (simp only [List.length_cons, List.length_nil, Nat.reduceAdd] <;> rfl)))
    | (apply Awp.sdraw; (case hn => (simp only [List.length_cons, List.length_nil, Nat.reduceAdd] <;> rfl)))
    | (refine st_nil ?_)
    | (apply st_a; (case hc => rfl); (case he => (simp only [go_sem, *] <;> rfl)); (case hu => (simp only [updL_nil, updL_cons] <;> rfl)); (case hp => first | trivial | omega | (simp; done) | (simp; omega)))
    | (apply Awp.reg; (case hn => (simp only [List.length_cons, List.length_nil, Nat.reduceAdd] <;> rfl)))
    | (refine Awp.skip ?_; try simp only [go_sem, *])
    | refine Awp.block ?_
    | (apply Awp.cond; (case hc => (simp only [go_sem, *] <;> rfl)); all_goals (intro hg; (try simp only [Bool.not_true, Bool.not_false, reduceCtorEq] at hg)))
    | refine Awp.seq ?_
    | (apply sl_a; (case hc => rfl); (case he => (simp only [go_sem, *] <;> rfl)); (case hu => (simp only [updL_nil, updL_cons] <;> rfl)); (case hl => (simp only [List.map_cons, List.map_nil] <;> rfl)); (case hp => first | trivial))
    | (apply sl_ga; (case hb => rfl); (case hv => (simp only [go_sem, *] <;> rfl)); (case he => (simp only [go_sem, *] <;> rfl)); (case hu => (simp only [updL_nil, updL_cons] <;> rfl)); (case hl => (simp only [List.map_cons, List.map_nil] <;> rfl)); (case hp => first | trivial | omega))
    | (refine sl_nil (And.intro (by first | exact drawOk_of (by decide +kernel) | (simp only [List.map_cons, List.map_nil]; exact drawOk_of (by decide +kernel)) | decide) ?_)))
              all_goals (try (exfalso; simp only [Bool.or_true, Bool.true_or, Bool.or_false, Bool.false_or, Bool.and_true, Bool.true_and, Bool.and_false, Bool.false_and, Bool.not_true, Bool.not_false, reduceCtorEq, *] at hA; done))
              all_goals (refine ⟨i + 1, by omega, by omega, ?_⟩; rw [hst]; dsimp only; rw [← pts_snoc]; clear hst; (apply Ghost.mk [(0, 0), (1, 322)] []; (case hdead => rfl); (case hinj => rfl); (case hV => (simp only [go_sem, *]) <;> (repeat' (first | refine And.intro ?_ ?_ | exact View.int (by first | rfl | omega | (simp; done) | (rw [wrap_i64] <;> (try simp only [Int.natCast_add]) <;> omega) | (simp [*]; done)) | exact .bp rfl (by decide) | exact .own rfl (by decide)))); (case hB => (simp only [go_sem, *]) <;> (repeat' (first | refine And.intro ?_ ?_ | exact ⟨_, rfl, BView.boxF rfl⟩ | exact ⟨_, rfl, .rowE (by first | rfl | omega | (simp; done) | (rw [wrap_i64] <;> (try simp only [Int.natCast_add]) <;> omega) | (simp [*]; done))⟩)))))
            · rw [show stepP p (R, false) x = (R ++ [p] ++ [x], true) by unfold stepP; rw [hA]; rfl] at hst
              unfold gtId at hA
              have esn : pts R ++ [[.v (.string p.id), .v (.int .i64 p.k), .v (.int .i64 p.a), .v (.int .i64 p.b)]] = pts (R ++ [p]) := pts_snoc R p
              have efin : pts (R ++ [p]) ++ [[.v (.string x.id), .v (.int .i64 x.k), .v (.int .i64 x.a), .v (.int .i64 x.b)]] = pts (R ++ [p, x]) := by simp [pts, Pt.cells]
              repeat' (first
    | (apply Awp.sreg; (case hn => (simp only [List.length_cons, List.length_nil, Nat.reduceAdd] <;> rfl)))
    | (apply Awp.sdraw; (case hn => (simp only [List.length_cons, List.length_nil, Nat.reduceAdd] <;> rfl)))
    | (refine st_nil ?_)
    | (apply st_a; (case hc => rfl); (case he => (simp only [go_sem, *] <;> rfl)); (case hu => (simp only [updL_nil, updL_cons] <;> rfl)); (case hp => first | trivial | omega | (simp; done) | (simp; omega)))
    | (apply Awp.reg; (case hn => (simp only [List.length_cons, List.length_nil, Nat.reduceAdd] <;> rfl)))
    | (refine Awp.skip ?_; try simp only [go_sem, *])
    | refine Awp.block ?_
    | (apply Awp.cond; (case hc => (simp only [go_sem, *] <;> rfl)); all_goals (intro hg; (try simp only [Bool.not_true, Bool.not_false, reduceCtorEq] at hg)))
    | refine Awp.seq ?_
    | (apply sl_a; (case hc => rfl); (case he => (simp only [go_sem, *] <;> rfl)); (case hu => (simp only [updL_nil, updL_cons] <;> rfl)); (case hl => (simp only [List.map_cons, List.map_nil] <;> rfl)); (case hp => first | trivial))
    | (apply sl_ga; (case hb => rfl); (case hv => (simp only [go_sem, *] <;> rfl)); (case he => (simp only [go_sem, *] <;> rfl)); (case hu => (simp only [updL_nil, updL_cons] <;> rfl)); (case hl => (simp only [List.map_cons, List.map_nil] <;> rfl)); (case hp => first | trivial | omega))
    | (refine sl_nil (And.intro (by first | exact drawOk_of (by decide +kernel) | (simp only [List.map_cons, List.map_nil]; exact drawOk_of (by decide +kernel)) | decide) ?_)))
              all_goals (try (exfalso; simp only [Bool.or_true, Bool.true_or, Bool.or_false, Bool.false_or, Bool.and_true, Bool.true_and, Bool.and_false, Bool.false_and, Bool.not_true, Bool.not_false, reduceCtorEq, *] at hA; done))
              all_goals (refine ⟨i + 1, by omega, by omega, ?_⟩; rw [hst]; dsimp only; rw [← pts_snoc]; clear hst; (apply Ghost.mk [(0, 0), (1, 328)] []; (case hdead => rfl); (case hinj => rfl); (case hV => (simp only [go_sem, *]) <;> (repeat' (first | refine And.intro ?_ ?_ | exact View.int (by first | rfl | exact efin | omega | (simp; done) | (rw [wrap_i64] <;> (try simp only [Int.natCast_add]) <;> omega) | (simp [*]; done)) | exact .bp rfl (by decide) | exact .own rfl (by decide)))); (case hB => (simp only [go_sem, *]) <;> (repeat' (first | refine And.intro ?_ ?_ | exact ⟨_, rfl, BView.boxF rfl⟩ | exact ⟨_, rfl, .rowE (by first | rfl | exact efin | omega | (simp; done) | (rw [wrap_i64] <;> (try simp only [Int.natCast_add]) <;> omega) | (simp [*]; done))⟩)))))
          · rw [show stepP p (R, true) x = (R ++ [x], true) from rfl] at hst
            repeat' (first
    | (apply Awp.sreg; (case hn => (simp only [List.length_cons, List.length_nil, Nat.reduceAdd] <;> rfl)))
    | (apply Awp.sdraw; (case hn => (simp only [List.length_cons, List.length_nil, Nat.reduceAdd] <;> rfl)))
    | (refine st_nil ?_)
    | (apply st_a; (case hc => rfl); (case he => (simp only [go_sem, *] <;> rfl)); (case hu => (simp only [updL_nil, updL_cons] <;> rfl)); (case hp => first | trivial | omega | (simp; done) | (simp; omega)))
    | (apply Awp.reg; (case hn => (simp only [List.length_cons, List.length_nil, Nat.reduceAdd] <;> rfl)))
    | (refine Awp.skip ?_; try simp only [go_sem, *])
    | refine Awp.block ?_
    | (apply Awp.cond; (case hc => (simp only [go_sem, *] <;> rfl)); all_goals (intro hg; (try simp only [Bool.not_true, Bool.not_false, reduceCtorEq] at hg)))
    | refine Awp.seq ?_
    | (apply sl_a; (case hc => rfl); (case he => (simp only [go_sem, *] <;> rfl)); (case hu => (simp only [updL_nil, updL_cons] <;> rfl)); (case hl => (simp only [List.map_cons, List.map_nil] <;> rfl)); (case hp => first | trivial))
    | (apply sl_gn; (case hv => (simp only [go_sem, *] <;> rfl)); (case hbw => rfl))
    | (refine sl_nil (And.intro (by first | exact drawOk_of (by decide +kernel) | (simp only [List.map_cons, List.map_nil]; exact drawOk_of (by decide +kernel)) | decide) ?_)))
            all_goals (refine ⟨i + 1, by omega, by omega, ?_⟩; rw [hst]; dsimp only; rw [← pts_snoc]; clear hst; (apply Ghost.mk [(0, 0), (1, 322)] []; (case hdead => rfl); (case hinj => rfl); (case hV => (simp only [go_sem, *]) <;> (repeat' (first | refine And.intro ?_ ?_ | exact View.int (by first | rfl | omega | (simp; done) | (rw [wrap_i64] <;> (try simp only [Int.natCast_add]) <;> omega) | (simp [*]; done)) | exact .bp rfl (by decide) | exact .own rfl (by decide)))); (case hB => (simp only [go_sem, *]) <;> (repeat' (first | refine And.intro ?_ ?_ | exact ⟨_, rfl, BView.boxF rfl⟩ | exact ⟨_, rfl, .rowE (by first | rfl | omega | (simp; done) | (rw [wrap_i64] <;> (try simp only [Int.natCast_add]) <;> omega) | (simp [*]; done))⟩)))))
        · have hlt' : ¬ (i : Int) < l.length := by omega
          have e1 : l.take i = l := List.take_of_length_le (by omega)
          have hrl := stepP_len p l ([], false)
          simp only [List.length_nil] at hrl
          rw [e1]
          clear e1 hlt hi
          obtain ⟨⟨R, d⟩, hR⟩ : ∃ R, l.foldl (stepP p) ([], false) = R := ⟨_, rfl⟩
          rw [hR] at hrl ⊢
          clear hR
          unfold finP
          dsimp only at hrl ⊢
          cases d
          · simp only [Bool.false_eq_true, if_false]
            rw [← pts_snoc]
            repeat' (first
    | (apply Awp.sreg; (case hn => (simp only [List.length_cons, List.length_nil, Nat.reduceAdd] <;> rfl)))
    | (refine st_nil ?_)
    | (apply st_a; (case hc => rfl); (case he => (simp only [go_sem, *] <;> rfl)); (case hu => (simp only [updL_nil, updL_cons] <;> rfl)); (case hp => first | trivial | (simp; done) | (simp; omega)))
    | (apply Awp.reg; (case hn => (simp only [List.length_cons, List.length_nil, Nat.reduceAdd] <;> rfl)))
    | (refine Awp.ret ?_; try simp only [go_sem, *])
    | (refine Awp.exit ?_; try simp only [go_sem, *])
    | (apply Awp.cond; (case hc => (simp only [go_sem, *] <;> rfl)); all_goals (intro hg; (try simp only [Bool.not_true, Bool.not_false, reduceCtorEq] at hg)))
    | refine Awp.seq ?_)
            all_goals repeat' (first | exact Lower.int (by first | rfl | (simp only [true_and, Bool.true_and, Bool.false_and, Bool.and_true, Bool.and_false, Bool.true_or, Bool.false_or, reduceIte, Bool.false_eq_true, *]; done) | (simp only [true_and, reduceIte, Bool.false_eq_true, *] <;> rfl) | (simp [true_and]; done) | (simp_all [true_and]; done) | omega) | exact Lower.ownE (by simp only [go_sem, *] <;> rfl) (by first | rfl | (simp only [true_and, Bool.true_and, Bool.false_and, Bool.and_true, Bool.and_false, Bool.true_or, Bool.false_or, reduceIte, Bool.false_eq_true, *]; done) | (simp only [true_and, reduceIte, Bool.false_eq_true, *] <;> rfl) | (simp [true_and]; done) | (simp_all [true_and]; done) | omega) | refine Lower.tupF ?_ | refine All2.cons ?_ ?_ | exact All2.nil)
          · simp only [if_true]
            repeat' (first
    | (apply Awp.sreg; (case hn => (simp only [List.length_cons, List.length_nil, Nat.reduceAdd] <;> rfl)))
    | (refine st_nil ?_)
    | (apply st_a; (case hc => rfl); (case he => (simp only [go_sem, *] <;> rfl)); (case hu => (simp only [updL_nil, updL_cons] <;> rfl)); (case hp => first | trivial))
    | (refine Awp.ret ?_; try simp only [go_sem, *])
    | (refine Awp.skip ?_; try simp only [go_sem, *])
    | (refine Awp.exit ?_; try simp only [go_sem, *])
    | (apply Awp.cond; (case hc => (simp only [go_sem, *] <;> rfl)); all_goals (intro hg; (try simp only [Bool.not_true, Bool.not_false, reduceCtorEq] at hg)))
    | refine Awp.seq ?_)
            all_goals repeat' (first | exact Lower.int (by first | rfl | (simp only [true_and, Bool.true_and, Bool.false_and, Bool.and_true, Bool.and_false, Bool.true_or, Bool.false_or, reduceIte, Bool.false_eq_true, *]; done) | (simp only [true_and, reduceIte, Bool.false_eq_true, *] <;> rfl) | (simp [true_and]; done) | (simp_all [true_and]; done) | omega) | exact Lower.ownE (by simp only [go_sem, *] <;> rfl) (by first | rfl | (simp only [true_and, Bool.true_and, Bool.false_and, Bool.and_true, Bool.and_false, Bool.true_or, Bool.false_or, reduceIte, Bool.false_eq_true, *]; done) | (simp only [true_and, reduceIte, Bool.false_eq_true, *] <;> rfl) | (simp [true_and]; done) | (simp_all [true_and]; done) | omega) | refine Lower.tupF ?_ | refine All2.cons ?_ ?_ | exact All2.nil)
theorem addE_len (l : List Pt) (p : Pt) (now : Int) : (addE l p now).1.length ≤ l.length + 1 := by
  unfold addE insP
  repeat' split
  all_goals simp
  omega
theorem adds_ok (l : List Pt) (p : Pt) (now : Int) : Pure Tryz.prog 3 [.sl (pts l), p.av, .v (.int .i64 now)] (.v (.bool true)) := by
  have c0 := short_ok l
  cases h1 : shortB l
  · rw [h1] at c0
    refine fn_pure Tryz.F3 (Nat.le_of_ble_eq_true rfl) ?_; unfold Tryz.ac3
    repeat' (first
    | (apply Awp.sreg; (case hn => (simp only [List.length_cons, List.length_nil, Nat.reduceAdd] <;> rfl)))
    | (refine st_nil ?_)
    | (apply st_a; (case hc => rfl); (case he => (simp only [go_sem, *] <;> rfl)); (case hu => (simp only [updL_nil, updL_cons] <;> rfl)); (case hp => first | trivial))
    | (apply st_m; (case hc => rfl); (case hg => (simp only [go_sem, *] <;> rfl)); (case he => (intro hQz; (try simp only [wantB_t, wantB_f, Bool.and_eq_true, Bool.not_eq_true', Bool.not_true, Bool.not_false, and_true, true_and] at hQz); simp only [go_sem, *] <;> rfl)); (case hp => (intro hQz; (try simp only [wantB_t, wantB_f, Bool.and_eq_true, Bool.not_eq_true', Bool.or_eq_false_iff, decide_eq_true_eq, decide_eq_false_iff_not, beq_iff_eq, beq_eq_false_iff_ne, bne_iff_ne, bne_eq_false_iff_eq, Int.not_lt, Int.not_le, Int.ofNat_lt, Int.ofNat_le] at hQz); first | trivial)))
    | (apply st_c; (case hc => (simp only [go_sem, *] <;> rfl)); (case hl => (simp only [go_sem, *] <;> rfl)); (case hn => (simp only [go_sem, *] <;> rfl)); (case hp => first | exact c0 | (have hXz := c0; simp only [go_sem, *] at hXz; exact hXz)))
    | (apply st_c; (case hc => (simp only [go_sem, *] <;> rfl)); (case hl => (simp only [go_sem, *] <;> rfl)); (case hn => (simp only [go_sem, *] <;> rfl)); (case hp => first | exact awake_ok | (have hXz := awake_ok; simp only [go_sem, *] at hXz; exact hXz)))
    | (refine Awp.ret ?_; try simp only [go_sem, *])
    | (apply Awp.cond; (case hc => (simp only [go_sem, *] <;> rfl)); all_goals (intro hg; (try simp only [Bool.not_true, Bool.not_false, reduceCtorEq] at hg)))
    | refine Awp.seq ?_)
    all_goals repeat' (first | exact Lower.bool (by first | rfl | (simp only [true_and, Bool.true_and, Bool.false_and, Bool.and_true, Bool.and_false, Bool.true_or, Bool.false_or, reduceIte, Bool.false_eq_true, *]; done) | (simp only [true_and, reduceIte, Bool.false_eq_true, *] <;> rfl) | (simp [true_and]; done) | (simp_all [true_and]; done) | omega))
  rw [h1] at c0
  by_cases hp : (100 : Int) < p.id.size
  · refine fn_pure Tryz.F3 (Nat.le_of_ble_eq_true rfl) ?_; unfold Tryz.ac3
    repeat' (first
    | (apply Awp.sreg; (case hn => (simp only [List.length_cons, List.length_nil, Nat.reduceAdd] <;> rfl)))
    | (refine st_nil ?_)
    | (apply st_a; (case hc => rfl); (case he => (simp only [go_sem, *] <;> rfl)); (case hu => (simp only [updL_nil, updL_cons] <;> rfl)); (case hp => first | trivial))
    | (apply st_m; (case hc => rfl); (case hg => (simp only [go_sem, *] <;> rfl)); (case he => (intro hQz; (try simp only [wantB_t, wantB_f, Bool.and_eq_true, Bool.not_eq_true', Bool.not_true, Bool.not_false, and_true, true_and] at hQz); simp only [go_sem, *] <;> rfl)); (case hp => (intro hQz; (try simp only [wantB_t, wantB_f, Bool.and_eq_true, Bool.not_eq_true', Bool.or_eq_false_iff, decide_eq_true_eq, decide_eq_false_iff_not, beq_iff_eq, beq_eq_false_iff_ne, bne_iff_ne, bne_eq_false_iff_eq, Int.not_lt, Int.not_le, Int.ofNat_lt, Int.ofNat_le] at hQz); first | trivial)))
    | (apply st_c; (case hc => (simp only [go_sem, *] <;> rfl)); (case hl => (simp only [go_sem, *] <;> rfl)); (case hn => (simp only [go_sem, *] <;> rfl)); (case hp => first | exact c0 | (have hXz := c0; simp only [go_sem, *] at hXz; exact hXz)))
    | (apply st_c; (case hc => (simp only [go_sem, *] <;> rfl)); (case hl => (simp only [go_sem, *] <;> rfl)); (case hn => (simp only [go_sem, *] <;> rfl)); (case hp => first | exact awake_ok | (have hXz := awake_ok; simp only [go_sem, *] at hXz; exact hXz)))
    | (refine Awp.ret ?_; try simp only [go_sem, *])
    | (apply Awp.cond; (case hc => (simp only [go_sem, *] <;> rfl)); all_goals (intro hg; (try simp only [Bool.not_true, Bool.not_false, reduceCtorEq] at hg)))
    | refine Awp.seq ?_)
    all_goals repeat' (first | exact Lower.bool (by first | rfl | (simp only [true_and, Bool.true_and, Bool.false_and, Bool.and_true, Bool.and_false, Bool.true_or, Bool.false_or, reduceIte, Bool.false_eq_true, *]; done) | (simp only [true_and, reduceIte, Bool.false_eq_true, *] <;> rfl) | (simp [true_and]; done) | (simp_all [true_and]; done) | omega))
  have hl := (short_get h1).1
  have c1 := add_ok l p now (by omega)
  have c2 := radd_ok l p now (by omega) (by omega)
  have hal := addE_len l p now
  have c3 := samept_ok (addE l p now).1 (by omega)
  clear h1 hl hal
  generalize (addE l p now).1 = L at *
  generalize (addE l p now).2 = E at *
  have e1 : (E == E) = true := by simp
  refine fn_pure Tryz.F3 (Nat.le_of_ble_eq_true rfl) ?_; unfold Tryz.ac3
  repeat' (first
    | (apply Awp.sreg; (case hn => (simp only [List.length_cons, List.length_nil, Nat.reduceAdd] <;> rfl)))
    | (refine st_nil ?_)
    | (apply st_a; (case hc => rfl); (case he => (simp only [go_sem, *] <;> rfl)); (case hu => (simp only [updL_nil, updL_cons] <;> rfl)); (case hp => first | trivial))
    | (apply st_m; (case hc => rfl); (case hg => (simp only [go_sem, *] <;> rfl)); (case he => (intro hQz; (try simp only [wantB_t, wantB_f, Bool.and_eq_true, Bool.not_eq_true', Bool.not_true, Bool.not_false, and_true, true_and] at hQz); simp only [go_sem, *] <;> rfl)); (case hp => (intro hQz; (try simp only [wantB_t, wantB_f, Bool.and_eq_true, Bool.not_eq_true', Bool.or_eq_false_iff, decide_eq_true_eq, decide_eq_false_iff_not, beq_iff_eq, beq_eq_false_iff_ne, bne_iff_ne, bne_eq_false_iff_eq, Int.not_lt, Int.not_le, Int.ofNat_lt, Int.ofNat_le] at hQz); first | trivial)))
    | (apply st_c; (case hc => (simp only [go_sem, *] <;> rfl)); (case hl => (simp only [go_sem, *] <;> rfl)); (case hn => (simp only [go_sem, *] <;> rfl)); (case hp => first | exact c0 | (have hXz := c0; simp only [go_sem, *] at hXz; exact hXz)))
    | (apply st_c; (case hc => (simp only [go_sem, *] <;> rfl)); (case hl => (simp only [go_sem, *] <;> rfl)); (case hn => (simp only [go_sem, *] <;> rfl)); (case hp => first | exact c1 | (have hXz := c1; simp only [go_sem, *] at hXz; exact hXz)))
    | (apply st_c; (case hc => (simp only [go_sem, *] <;> rfl)); (case hl => (simp only [go_sem, *] <;> rfl)); (case hn => (simp only [go_sem, *] <;> rfl)); (case hp => first | exact c2 | (have hXz := c2; simp only [go_sem, *] at hXz; exact hXz)))
    | (apply st_c; (case hc => (simp only [go_sem, *] <;> rfl)); (case hl => (simp only [go_sem, *] <;> rfl)); (case hn => (simp only [go_sem, *] <;> rfl)); (case hp => first | exact c3 | (have hXz := c3; simp only [go_sem, *] at hXz; exact hXz)))
    | (apply st_mc; (case hop => rfl); (case hg => (simp only [go_sem, *] <;> rfl)); (case hc => (intro hQz; (try simp only [wantB_t, wantB_f, Bool.and_eq_true, Bool.not_eq_true', Bool.not_true, Bool.not_false, and_true, true_and] at hQz); simp only [go_sem, *] <;> rfl)); (case hl => (intro hQz; (try simp only [wantB_t, wantB_f, Bool.and_eq_true, Bool.not_eq_true', Bool.not_true, Bool.not_false, and_true, true_and] at hQz); simp only [go_sem, *] <;> rfl)); (case hn => (intro hQz; (try simp only [wantB_t, wantB_f, Bool.and_eq_true, Bool.not_eq_true', Bool.not_true, Bool.not_false, and_true, true_and] at hQz); simp only [go_sem, *] <;> rfl)); (case hp => intro hQz; first | exact awake_ok | (have hXz := awake_ok; simp only [go_sem, *] at hXz; exact hXz)))
    | (refine Awp.ret ?_; try simp only [go_sem, *])
    | (refine Awp.skip ?_; try simp only [go_sem, *])
    | (apply Awp.cond; (case hc => (simp only [go_sem, *] <;> rfl)); all_goals (intro hg; (try simp only [Bool.not_true, Bool.not_false, reduceCtorEq] at hg)))
    | refine Awp.seq ?_)
  all_goals repeat' (first | exact Lower.bool (by first | rfl | (simp only [true_and, Bool.true_and, Bool.false_and, Bool.and_true, Bool.and_false, Bool.true_or, Bool.false_or, reduceIte, Bool.false_eq_true, *]; done) | (simp only [true_and, reduceIte, Bool.false_eq_true, *] <;> rfl) | (simp [true_and]; done) | (simp_all [true_and]; done) | omega))
end Go.Proofs
end
