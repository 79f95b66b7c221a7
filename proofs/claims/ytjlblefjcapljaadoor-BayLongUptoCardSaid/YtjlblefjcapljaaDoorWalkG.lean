import Derived.DataShut
import Derived.Test.YtjlblefjcapljaaDoorPlanA
import Derived.Test.YtjlblefjcapljaaDoorCodeB
import Derived.Test.YtjlblefjcapljaaDoorLayB
section
set_option linter.unusedVariables false
set_option linter.unusedSimpArgs false
namespace Go.Proofs
open Go Go.Ab
set_option maxHeartbeats 4000000
set_option maxRecDepth 100000
set_option linter.unusedSimpArgs false
set_option linter.unusedVariables false
attribute [local irreducible] Awp aops aopsL Go.Ab.Pure PureOwn
def rightB (p : Pl) : Bool := fewB p.bays p.stays && (checkE p.bays p.stays == 0)
theorem right_ok (p : Pl) : Pure Tryd.prog 15 [p.av] (.v (.bool (rightB p))) := by
  have c0 := few_ok p.bays p.stays
  unfold rightB
  cases h1 : fewB p.bays p.stays
  · rw [h1] at c0
    refine fn_pure Tryd.F15 (Nat.le_of_ble_eq_true rfl) ?_; unfold Tryd.ac15
    repeat' (first
    | (apply Awp.sreg; (case hn => (simp only [List.length_cons, List.length_nil, Nat.reduceAdd] <;> rfl)))
    | (refine st_nil ?_)
    | (apply st_a; (case hc => rfl); (case he => (simp only [go_sem, *] <;> rfl)); (case hu => (simp only [updL_nil, updL_cons] <;> rfl)); (case hp => first | trivial | assumption | omega | (simp; done) | (simp; omega) | (simp [*]; done) | ((repeat' (refine And.intro ?_ ?_)) <;> first | trivial | assumption | omega | (simp; done) | (simp; omega) | (simp [*]; done))))
    | (apply st_m; (case hc => rfl); (case hg => (simp only [go_sem, *] <;> rfl)); (case he => (intro hQz; (try simp only [wantB_t, wantB_f, Bool.and_eq_true, Bool.not_eq_true', Bool.not_true, Bool.not_false, and_true, true_and] at hQz); simp only [go_sem, *] <;> rfl)); (case hp => (intro hQz; (try simp only [wantB_t, wantB_f, Bool.and_eq_true, Bool.not_eq_true', Bool.or_eq_false_iff, decide_eq_true_eq, decide_eq_false_iff_not, beq_iff_eq, beq_eq_false_iff_ne, bne_iff_ne, bne_eq_false_iff_eq, Int.not_lt, Int.not_le, Int.ofNat_lt, Int.ofNat_le] at hQz); first | trivial | assumption | omega | (simp; done) | (simp; omega) | (simp [*]; done) | ((repeat' (refine And.intro ?_ ?_)) <;> first | trivial | assumption | omega | (simp; done) | (simp; omega) | (simp [*]; done)))))
    | (apply st_c; (case hc => (simp only [go_sem, *] <;> rfl)); (case hl => (simp only [go_sem, *] <;> rfl)); (case hn => (simp only [go_sem, *] <;> rfl)); (case hp => first | exact c0 | (have hXz := c0; simp only [go_sem, *] at hXz; exact hXz)))
    | (apply st_g; (case hv => (simp only [go_sem, *] <;> rfl)); all_goals (intro hg; (try simp only [Bool.not_true, Bool.not_false, reduceCtorEq] at hg)))
    | (refine Awp.ret ?_; try simp only [go_sem, *]))
    all_goals repeat' (first | exact Lower.bool (by first | rfl | (simp only [true_and, Bool.true_and, Bool.false_and, Bool.and_true, Bool.and_false, Bool.true_or, Bool.false_or, reduceIte, Bool.false_eq_true, *]; done) | (simp only [true_and, reduceIte, Bool.false_eq_true, *] <;> rfl) | (simp [true_and]; done) | (simp_all [true_and]; done) | omega))
  · obtain ⟨f1, f2, f3⟩ := few_size h1
    rw [h1] at c0
    have c1 := rcheck_ok p.bays p.stays (by omega) (by omega) (fun i hi => by have := f3 i hi; omega)
    clear h1 f1 f2 f3
    refine fn_pure Tryd.F15 (Nat.le_of_ble_eq_true rfl) ?_; unfold Tryd.ac15
    repeat' (first
    | (apply Awp.sreg; (case hn => (simp only [List.length_cons, List.length_nil, Nat.reduceAdd] <;> rfl)))
    | (refine st_nil ?_)
    | (apply st_a; (case hc => rfl); (case he => (simp only [go_sem, *] <;> rfl)); (case hu => (simp only [updL_nil, updL_cons] <;> rfl)); (case hp => first | trivial | assumption | omega | (simp; done) | (simp; omega) | (simp [*]; done) | ((repeat' (refine And.intro ?_ ?_)) <;> first | trivial | assumption | omega | (simp; done) | (simp; omega) | (simp [*]; done))))
    | (apply st_m; (case hc => rfl); (case hg => (simp only [go_sem, *] <;> rfl)); (case he => (intro hQz; (try simp only [wantB_t, wantB_f, Bool.and_eq_true, Bool.not_eq_true', Bool.not_true, Bool.not_false, and_true, true_and] at hQz); simp only [go_sem, *] <;> rfl)); (case hp => (intro hQz; (try simp only [wantB_t, wantB_f, Bool.and_eq_true, Bool.not_eq_true', Bool.or_eq_false_iff, decide_eq_true_eq, decide_eq_false_iff_not, beq_iff_eq, beq_eq_false_iff_ne, bne_iff_ne, bne_eq_false_iff_eq, Int.not_lt, Int.not_le, Int.ofNat_lt, Int.ofNat_le] at hQz); first | trivial | assumption | omega | (simp; done) | (simp; omega) | (simp [*]; done) | ((repeat' (refine And.intro ?_ ?_)) <;> first | trivial | assumption | omega | (simp; done) | (simp; omega) | (simp [*]; done)))))
    | (apply st_c; (case hc => (simp only [go_sem, *] <;> rfl)); (case hl => (simp only [go_sem, *] <;> rfl)); (case hn => (simp only [go_sem, *] <;> rfl)); (case hp => first | exact c0 | (have hXz := c0; simp only [go_sem, *] at hXz; exact hXz)))
    | (apply st_mc; (case hop => rfl); (case hg => (simp only [go_sem, *] <;> rfl)); (case hc => (intro hQz; (try simp only [wantB_t, wantB_f, Bool.and_eq_true, Bool.not_eq_true', Bool.not_true, Bool.not_false, and_true, true_and] at hQz); simp only [go_sem, *] <;> rfl)); (case hl => (intro hQz; (try simp only [wantB_t, wantB_f, Bool.and_eq_true, Bool.not_eq_true', Bool.not_true, Bool.not_false, and_true, true_and] at hQz); simp only [go_sem, *] <;> rfl)); (case hn => (intro hQz; (try simp only [wantB_t, wantB_f, Bool.and_eq_true, Bool.not_eq_true', Bool.not_true, Bool.not_false, and_true, true_and] at hQz); simp only [go_sem, *] <;> rfl)); (case hp => intro hQz; first | exact c1 | (have hXz := c1; simp only [go_sem, *] at hXz; exact hXz)))
    | (refine Awp.ret ?_; try simp only [go_sem, *]))
    all_goals repeat' (first | exact Lower.bool (by first | rfl | (simp only [true_and, Bool.true_and, Bool.false_and, Bool.and_true, Bool.and_false, Bool.true_or, Bool.false_or, reduceIte, Bool.false_eq_true, *]; done) | (simp only [true_and, reduceIte, Bool.false_eq_true, *] <;> rfl) | (simp [true_and]; done) | (simp_all [true_and]; done) | omega))
theorem fitE_zero {bs : List By} {l : List Sty} {x : Sty} {h : Int} (hz : (fitE bs l x h).2 = 0) : checkE bs l = 0 ∧ idB x.item = true ∧ fitR x h = false ∧ decide ((128 : Int) ≤ l.length) = false ∧ fitS bs l x h = some (fitE bs l x h).1 := by
  unfold fitE at hz ⊢
  by_cases h1 : checkE bs l = 0
  · rw [if_neg (by rw [h1]; simp)] at hz ⊢
    cases h2 : idB x.item
    · rw [h2] at hz; simp at hz
    · rw [h2] at hz
      rw [if_neg (by simp)] at hz ⊢
      cases h3 : fitR x h
      · rw [h3] at hz
        rw [if_neg (by simp)] at hz ⊢
        by_cases h4 : (128 : Int) ≤ l.length
        · rw [if_pos (by simpa using h4)] at hz; simp at hz
        · rw [if_neg (by simpa using h4)] at hz ⊢
          refine ⟨h1, rfl, rfl, by simpa using h4, ?_⟩
          cases h5 : fitS bs l x h with
          | none => rw [h5] at hz; simp at hz
          | some y => rfl
      · rw [h3] at hz; simp at hz
  · rw [if_pos (by simpa using h1)] at hz
    exact absurd hz h1
/-- What one step of the growing plan needs to know. -/
theorem grow_step {bs : List By} {L : List Sty} {x : Sty} {K : Nat} (hz : (fitE bs L x x.b).2 = 0) (hL : L.length < 128) : checkE bs (L ++ [(fitE bs L x x.b).1]) = 0 ∧ (fitE bs L x x.b).1.item = x.item
    ∧ (fitE bs (L.eraseIdx K) x x.b).2 = 0 ∧ (fitE bs (L.eraseIdx K) x x.b).1.a ≤ (fitE bs L x x.b).1.a := by
  obtain ⟨h1, h2, h3, h4, h5⟩ := fitE_zero hz
  obtain ⟨t, q, X, Y, ht, hq, ey, hs⟩ := fit_sound h5
  generalize (fitE bs L x x.b).1 = y at *
  refine ⟨check_add h1 hL hs, by rw [ey]; rfl, ?_⟩
  have hsub := List.eraseIdx_sublist L K
  have h1' := check_sub h1 hsub
  have hR : 1 ≤ x.b ∧ x.b ≤ 1048576 ∧ 0 ≤ x.a ∧ x.a ≤ 1048576 := by
    unfold fitR at h3
    simp only [Bool.or_eq_false_iff, decide_eq_false_iff_not] at h3
    omega
  have hb := ((checkE_iff bs L).1 h1).1
  have hg := ((checkE_iff bs L).1 h1).2.2.1
  have hs' := (stayE_zero _ _ _).1 hs
  have hgy := good_box hb hs'.1
  have hta : y.a = t := by rw [ey]; rfl
  have htx : x.a ≤ t := by
    rcases (mem_starts _ _ _).1 ht with rfl | ⟨q, _, hq, rfl⟩ <;> omega
  have hs2 : stayE bs (L.eraseIdx K) ((x.when q.nm t (IntKind.i64.wrap (t + x.b))).at_ X Y) = 0 := by
    rw [← ey, stayE_zero]
    exact ⟨hs'.1, fun q hq => hs'.2 q (hsub.subset hq)⟩
  obtain ⟨z, hz1, hz2⟩ := fit_complete (T := t) h1' h3 htx (by omega) hs2
  have hlen : (L.eraseIdx K).length ≤ L.length := hsub.length_le
  have e : fitE bs (L.eraseIdx K) x x.b = (z, 0) := by
    unfold fitE
    rw [if_neg (by rw [h1']; simp), if_neg (by rw [h2]; simp), if_neg (by rw [h3]; simp), if_neg (by simp; omega), hz1]
  rw [e]
  exact ⟨rfl, by rw [hta]; exact hz2⟩
def gS (p : Pl) (k : Int) (more L : List Sty) (i : Nat) : AState :=
  mkS [(1, .sl (stys more)), (2, .v (.int .u8 k)), (3, .bp 0 0), (7, .sl (stys L)), (8, .v (.int .i64 i))] [(0, .box [.sl (bys p.bays), .sl (stys p.stays)])]
def gI (p : Pl) (k : Int) (more L : List Sty) (i : Nat) (y : Sty) (less : List Sty) (j : Nat) : AState :=
  mkS [(1, .sl (stys more)), (2, .v (.int .u8 k)), (3, .bp 0 0), (7, .sl (stys L)), (8, .v (.int .i64 i)), (9, .bp 1 0), (11, .own 2), (12, .v (.int .i64 j))] [(0, .box [.sl (bys p.bays), .sl (stys p.stays)]), (1, .box y.cells), (2, .row (stys less) 8 31)]
def gJ (p : Pl) (k : Int) (more L : List Sty) (i : Nat) (y : Sty) (less : List Sty) (j : Nat) : AState :=
  mkS [(1, .sl (stys more)), (2, .v (.int .u8 k)), (3, .bp 0 0), (7, .sl (stys L)), (8, .v (.int .i64 i)), (9, .bp 1 0), (11, .sl (stys less)), (12, .v (.int .i64 j))] [(0, .box [.sl (bys p.bays), .sl (stys p.stays)]), (1, .box y.cells)]
theorem grows_ok (p : Pl) (more : List Sty) (k : Int) (hk0 : 0 ≤ k) (hk1 : k < 256) : Pure Tryd.prog 8 [p.av, .sl (stys more), .v (.int .u8 k)] (.v (.bool true)) := by
  have c0 := right_ok p
  have hlm := stys_len more
  cases h1 : rightB p
  · rw [h1] at c0
    unfold Pl.av at *
    refine fn_pure Tryd.F8 (Nat.le_of_ble_eq_true rfl) ?_; unfold Tryd.ac8
    repeat' (first
    | (apply Awp.sreg; (case hn => (simp only [List.length_cons, List.length_nil, Nat.reduceAdd] <;> rfl)))
    | (refine st_nil ?_)
    | (apply st_a; (case hc => rfl); (case he => (simp only [go_sem, *] <;> rfl)); (case hu => (simp only [updL_nil, updL_cons] <;> rfl)); (case hp => first | trivial | assumption | omega | (simp; done) | (simp; omega) | (simp [*]; done) | ((repeat' (refine And.intro ?_ ?_)) <;> first | trivial | assumption | omega | (simp; done) | (simp; omega) | (simp [*]; done))))
    | (apply st_m; (case hc => rfl); (case hg => (simp only [go_sem, *] <;> rfl)); (case he => (intro hQz; (try simp only [wantB_t, wantB_f, Bool.and_eq_true, Bool.not_eq_true', Bool.not_true, Bool.not_false, and_true, true_and] at hQz); simp only [go_sem, *] <;> rfl)); (case hp => (intro hQz; (try simp only [wantB_t, wantB_f, Bool.and_eq_true, Bool.not_eq_true', Bool.or_eq_false_iff, decide_eq_true_eq, decide_eq_false_iff_not, beq_iff_eq, beq_eq_false_iff_ne, bne_iff_ne, bne_eq_false_iff_eq, Int.not_lt, Int.not_le, Int.ofNat_lt, Int.ofNat_le] at hQz); first | trivial | assumption | omega | (simp; done) | (simp; omega) | (simp [*]; done) | ((repeat' (refine And.intro ?_ ?_)) <;> first | trivial | assumption | omega | (simp; done) | (simp; omega) | (simp [*]; done)))))
    | (apply st_c; (case hc => (simp only [go_sem, *] <;> rfl)); (case hl => (simp only [go_sem, *] <;> rfl)); (case hn => (simp only [go_sem, *] <;> rfl)); (case hp => first | exact c0 | (have hXz := c0; simp only [go_sem, *] at hXz; exact hXz)))
    | (apply st_c; (case hc => (simp only [go_sem, *] <;> rfl)); (case hl => (simp only [go_sem, *] <;> rfl)); (case hn => (simp only [go_sem, *] <;> rfl)); (case hp => first | exact awake_ok | (have hXz := awake_ok; simp only [go_sem, *] at hXz; exact hXz)))
    | (apply st_g; (case hv => (simp only [go_sem, *] <;> rfl)); all_goals (intro hg; (try simp only [Bool.not_true, Bool.not_false, reduceCtorEq] at hg)))
    | (refine Awp.ret ?_; try simp only [go_sem, *])
    | (apply Awp.cond; (case hc => (simp only [go_sem, *] <;> rfl)); all_goals (intro hg; (try simp only [Bool.not_true, Bool.not_false, reduceCtorEq] at hg)))
    | refine Awp.seq ?_)
    all_goals repeat' (first | exact Lower.bool (by first | rfl | (simp only [true_and, Bool.true_and, Bool.false_and, Bool.and_true, Bool.and_false, Bool.true_or, Bool.false_or, reduceIte, Bool.false_eq_true, *]; done) | (simp only [true_and, reduceIte, Bool.false_eq_true, *] <;> rfl) | (simp [true_and]; done) | (simp_all [true_and]; done) | omega))
  have hr : fewB p.bays p.stays = true ∧ checkE p.bays p.stays = 0 := by
    unfold rightB at h1
    simpa using h1
  rw [h1] at c0
  clear h1
  have hls := stys_len p.stays
  by_cases h50 : 50 < p.stays.length
  · have h50' : decide ((50 : Int) < p.stays.length) = true := by simp; omega
    clear hr
    unfold Pl.av at *
    refine fn_pure Tryd.F8 (Nat.le_of_ble_eq_true rfl) ?_; unfold Tryd.ac8
    repeat' (first
    | (apply Awp.sreg; (case hn => (simp only [List.length_cons, List.length_nil, Nat.reduceAdd] <;> rfl)))
    | (refine st_nil ?_)
    | (apply st_a; (case hc => rfl); (case he => (simp only [go_sem, *] <;> rfl)); (case hu => (simp only [updL_nil, updL_cons] <;> rfl)); (case hp => first | trivial | assumption | omega | (simp; done) | (simp; omega) | (simp [*]; done) | ((repeat' (refine And.intro ?_ ?_)) <;> first | trivial | assumption | omega | (simp; done) | (simp; omega) | (simp [*]; done))))
    | (apply st_m; (case hc => rfl); (case hg => (simp only [go_sem, *] <;> rfl)); (case he => (intro hQz; (try simp only [wantB_t, wantB_f, Bool.and_eq_true, Bool.not_eq_true', Bool.not_true, Bool.not_false, and_true, true_and] at hQz); simp only [go_sem, *] <;> rfl)); (case hp => (intro hQz; (try simp only [wantB_t, wantB_f, Bool.and_eq_true, Bool.not_eq_true', Bool.or_eq_false_iff, decide_eq_true_eq, decide_eq_false_iff_not, beq_iff_eq, beq_eq_false_iff_ne, bne_iff_ne, bne_eq_false_iff_eq, Int.not_lt, Int.not_le, Int.ofNat_lt, Int.ofNat_le] at hQz); first | trivial | assumption | omega | (simp; done) | (simp; omega) | (simp [*]; done) | ((repeat' (refine And.intro ?_ ?_)) <;> first | trivial | assumption | omega | (simp; done) | (simp; omega) | (simp [*]; done)))))
    | (apply st_c; (case hc => (simp only [go_sem, *] <;> rfl)); (case hl => (simp only [go_sem, *] <;> rfl)); (case hn => (simp only [go_sem, *] <;> rfl)); (case hp => first | exact c0 | (have hXz := c0; simp only [go_sem, *] at hXz; exact hXz)))
    | (apply st_c; (case hc => (simp only [go_sem, *] <;> rfl)); (case hl => (simp only [go_sem, *] <;> rfl)); (case hn => (simp only [go_sem, *] <;> rfl)); (case hp => first | exact awake_ok | (have hXz := awake_ok; simp only [go_sem, *] at hXz; exact hXz)))
    | (apply st_g; (case hv => (simp only [go_sem, *] <;> rfl)); all_goals (intro hg; (try simp only [Bool.not_true, Bool.not_false, reduceCtorEq] at hg)))
    | (refine Awp.ret ?_; try simp only [go_sem, *])
    | (apply Awp.cond; (case hc => (simp only [go_sem, *] <;> rfl)); all_goals (intro hg; (try simp only [Bool.not_true, Bool.not_false, reduceCtorEq] at hg)))
    | refine Awp.seq ?_)
    all_goals repeat' (first | exact Lower.bool (by first | rfl | (simp only [true_and, Bool.true_and, Bool.false_and, Bool.and_true, Bool.and_false, Bool.true_or, Bool.false_or, reduceIte, Bool.false_eq_true, *]; done) | (simp only [true_and, reduceIte, Bool.false_eq_true, *] <;> rfl) | (simp [true_and]; done) | (simp_all [true_and]; done) | omega))
  have h50' : decide ((50 : Int) < p.stays.length) = false := by simp; omega
  by_cases h8 : 8 < more.length
  · have h8' : decide ((8 : Int) < more.length) = true := by simp; omega
    clear hr
    unfold Pl.av at *
    refine fn_pure Tryd.F8 (Nat.le_of_ble_eq_true rfl) ?_; unfold Tryd.ac8
    repeat' (first
    | (apply Awp.sreg; (case hn => (simp only [List.length_cons, List.length_nil, Nat.reduceAdd] <;> rfl)))
    | (refine st_nil ?_)
    | (apply st_a; (case hc => rfl); (case he => (simp only [go_sem, *] <;> rfl)); (case hu => (simp only [updL_nil, updL_cons] <;> rfl)); (case hp => first | trivial | assumption | omega | (simp; done) | (simp; omega) | (simp [*]; done) | ((repeat' (refine And.intro ?_ ?_)) <;> first | trivial | assumption | omega | (simp; done) | (simp; omega) | (simp [*]; done))))
    | (apply st_m; (case hc => rfl); (case hg => (simp only [go_sem, *] <;> rfl)); (case he => (intro hQz; (try simp only [wantB_t, wantB_f, Bool.and_eq_true, Bool.not_eq_true', Bool.not_true, Bool.not_false, and_true, true_and] at hQz); simp only [go_sem, *] <;> rfl)); (case hp => (intro hQz; (try simp only [wantB_t, wantB_f, Bool.and_eq_true, Bool.not_eq_true', Bool.or_eq_false_iff, decide_eq_true_eq, decide_eq_false_iff_not, beq_iff_eq, beq_eq_false_iff_ne, bne_iff_ne, bne_eq_false_iff_eq, Int.not_lt, Int.not_le, Int.ofNat_lt, Int.ofNat_le] at hQz); first | trivial | assumption | omega | (simp; done) | (simp; omega) | (simp [*]; done) | ((repeat' (refine And.intro ?_ ?_)) <;> first | trivial | assumption | omega | (simp; done) | (simp; omega) | (simp [*]; done)))))
    | (apply st_c; (case hc => (simp only [go_sem, *] <;> rfl)); (case hl => (simp only [go_sem, *] <;> rfl)); (case hn => (simp only [go_sem, *] <;> rfl)); (case hp => first | exact c0 | (have hXz := c0; simp only [go_sem, *] at hXz; exact hXz)))
    | (apply st_c; (case hc => (simp only [go_sem, *] <;> rfl)); (case hl => (simp only [go_sem, *] <;> rfl)); (case hn => (simp only [go_sem, *] <;> rfl)); (case hp => first | exact awake_ok | (have hXz := awake_ok; simp only [go_sem, *] at hXz; exact hXz)))
    | (apply st_g; (case hv => (simp only [go_sem, *] <;> rfl)); all_goals (intro hg; (try simp only [Bool.not_true, Bool.not_false, reduceCtorEq] at hg)))
    | (refine Awp.ret ?_; try simp only [go_sem, *])
    | (apply Awp.cond; (case hc => (simp only [go_sem, *] <;> rfl)); all_goals (intro hg; (try simp only [Bool.not_true, Bool.not_false, reduceCtorEq] at hg)))
    | refine Awp.seq ?_)
    all_goals repeat' (first | exact Lower.bool (by first | rfl | (simp only [true_and, Bool.true_and, Bool.false_and, Bool.and_true, Bool.and_false, Bool.true_or, Bool.false_or, reduceIte, Bool.false_eq_true, *]; done) | (simp only [true_and, reduceIte, Bool.false_eq_true, *] <;> rfl) | (simp [true_and]; done) | (simp_all [true_and]; done) | omega))
  have h8' : decide ((8 : Int) < more.length) = false := by simp; omega
  have c1 : Pure Tryd.prog 9 [.sl [], .sl (stys more)] (.v (.bool (fewB [] more))) := few_ok [] more
  cases h2 : fewB [] more
  · rw [h2] at c1
    clear hr
    unfold Pl.av at *
    refine fn_pure Tryd.F8 (Nat.le_of_ble_eq_true rfl) ?_; unfold Tryd.ac8
    repeat' (first
    | (apply Awp.sreg; (case hn => (simp only [List.length_cons, List.length_nil, Nat.reduceAdd] <;> rfl)))
    | (refine st_nil ?_)
    | (apply st_a; (case hc => rfl); (case he => (simp only [go_sem, *] <;> rfl)); (case hu => (simp only [updL_nil, updL_cons] <;> rfl)); (case hp => first | trivial | assumption | omega | (simp; done) | (simp; omega) | (simp [*]; done) | ((repeat' (refine And.intro ?_ ?_)) <;> first | trivial | assumption | omega | (simp; done) | (simp; omega) | (simp [*]; done))))
    | (apply st_m; (case hc => rfl); (case hg => (simp only [go_sem, *] <;> rfl)); (case he => (intro hQz; (try simp only [wantB_t, wantB_f, Bool.and_eq_true, Bool.not_eq_true', Bool.not_true, Bool.not_false, and_true, true_and] at hQz); simp only [go_sem, *] <;> rfl)); (case hp => (intro hQz; (try simp only [wantB_t, wantB_f, Bool.and_eq_true, Bool.not_eq_true', Bool.or_eq_false_iff, decide_eq_true_eq, decide_eq_false_iff_not, beq_iff_eq, beq_eq_false_iff_ne, bne_iff_ne, bne_eq_false_iff_eq, Int.not_lt, Int.not_le, Int.ofNat_lt, Int.ofNat_le] at hQz); first | trivial | assumption | omega | (simp; done) | (simp; omega) | (simp [*]; done) | ((repeat' (refine And.intro ?_ ?_)) <;> first | trivial | assumption | omega | (simp; done) | (simp; omega) | (simp [*]; done)))))
    | (apply st_c; (case hc => (simp only [go_sem, *] <;> rfl)); (case hl => (simp only [go_sem, *] <;> rfl)); (case hn => (simp only [go_sem, *] <;> rfl)); (case hp => first | exact c0 | (have hXz := c0; simp only [go_sem, *] at hXz; exact hXz)))
    | (apply st_mc; (case hop => rfl); (case hg => (simp only [go_sem, *] <;> rfl)); (case hc => (intro hQz; (try simp only [wantB_t, wantB_f, Bool.and_eq_true, Bool.not_eq_true', Bool.not_true, Bool.not_false, and_true, true_and] at hQz); simp only [go_sem, *] <;> rfl)); (case hl => (intro hQz; (try simp only [wantB_t, wantB_f, Bool.and_eq_true, Bool.not_eq_true', Bool.not_true, Bool.not_false, and_true, true_and] at hQz); simp only [go_sem, *] <;> rfl)); (case hn => (intro hQz; (try simp only [wantB_t, wantB_f, Bool.and_eq_true, Bool.not_eq_true', Bool.not_true, Bool.not_false, and_true, true_and] at hQz); simp only [go_sem, *] <;> rfl)); (case hp => intro hQz; first | exact c1 | (have hXz := c1; simp only [go_sem, *] at hXz; exact hXz)))
    | (apply st_c; (case hc => (simp only [go_sem, *] <;> rfl)); (case hl => (simp only [go_sem, *] <;> rfl)); (case hn => (simp only [go_sem, *] <;> rfl)); (case hp => first | exact awake_ok | (have hXz := awake_ok; simp only [go_sem, *] at hXz; exact hXz)))
    | (refine Awp.ret ?_; try simp only [go_sem, *])
    | (apply Awp.cond; (case hc => (simp only [go_sem, *] <;> rfl)); all_goals (intro hg; (try simp only [Bool.not_true, Bool.not_false, reduceCtorEq] at hg)))
    | refine Awp.seq ?_)
    all_goals repeat' (first | exact Lower.bool (by first | rfl | (simp only [true_and, Bool.true_and, Bool.false_and, Bool.and_true, Bool.and_false, Bool.true_or, Bool.false_or, reduceIte, Bool.false_eq_true, *]; done) | (simp only [true_and, reduceIte, Bool.false_eq_true, *] <;> rfl) | (simp [true_and]; done) | (simp_all [true_and]; done) | omega))
  obtain ⟨f1, f2, f3⟩ := few_size hr.1
  obtain ⟨_, _, f4⟩ := few_size h2
  have hC := hr.2
  rw [h2] at c1
  clear hr h2
  unfold Pl.av at *
  refine fn_pure Tryd.F8 (Nat.le_of_ble_eq_true rfl) ?_; unfold Tryd.ac8
  repeat' (first
    | (apply Awp.sreg; (case hn => (simp only [List.length_cons, List.length_nil, Nat.reduceAdd] <;> rfl)))
    | (refine st_nil ?_)
    | (apply st_a; (case hc => rfl); (case he => (simp only [go_sem, *] <;> rfl)); (case hu => (simp only [updL_nil, updL_cons] <;> rfl)); (case hp => first | trivial | assumption | omega | (simp; done) | (simp; omega) | (simp [*]; done) | ((repeat' (refine And.intro ?_ ?_)) <;> first | trivial | assumption | omega | (simp; done) | (simp; omega) | (simp [*]; done))))
    | (apply st_m; (case hc => rfl); (case hg => (simp only [go_sem, *] <;> rfl)); (case he => (intro hQz; (try simp only [wantB_t, wantB_f, Bool.and_eq_true, Bool.not_eq_true', Bool.not_true, Bool.not_false, and_true, true_and] at hQz); simp only [go_sem, *] <;> rfl)); (case hp => (intro hQz; (try simp only [wantB_t, wantB_f, Bool.and_eq_true, Bool.not_eq_true', Bool.or_eq_false_iff, decide_eq_true_eq, decide_eq_false_iff_not, beq_iff_eq, beq_eq_false_iff_ne, bne_iff_ne, bne_eq_false_iff_eq, Int.not_lt, Int.not_le, Int.ofNat_lt, Int.ofNat_le] at hQz); first | trivial | assumption | omega | (simp; done) | (simp; omega) | (simp [*]; done) | ((repeat' (refine And.intro ?_ ?_)) <;> first | trivial | assumption | omega | (simp; done) | (simp; omega) | (simp [*]; done)))))
    | (apply st_c; (case hc => (simp only [go_sem, *] <;> rfl)); (case hl => (simp only [go_sem, *] <;> rfl)); (case hn => (simp only [go_sem, *] <;> rfl)); (case hp => first | exact c0 | (have hXz := c0; simp only [go_sem, *] at hXz; exact hXz)))
    | (apply st_mc; (case hop => rfl); (case hg => (simp only [go_sem, *] <;> rfl)); (case hc => (intro hQz; (try simp only [wantB_t, wantB_f, Bool.and_eq_true, Bool.not_eq_true', Bool.not_true, Bool.not_false, and_true, true_and] at hQz); simp only [go_sem, *] <;> rfl)); (case hl => (intro hQz; (try simp only [wantB_t, wantB_f, Bool.and_eq_true, Bool.not_eq_true', Bool.not_true, Bool.not_false, and_true, true_and] at hQz); simp only [go_sem, *] <;> rfl)); (case hn => (intro hQz; (try simp only [wantB_t, wantB_f, Bool.and_eq_true, Bool.not_eq_true', Bool.not_true, Bool.not_false, and_true, true_and] at hQz); simp only [go_sem, *] <;> rfl)); (case hp => intro hQz; first | exact c1 | (have hXz := c1; simp only [go_sem, *] at hXz; exact hXz)))
    | (refine Awp.skip ?_; try simp only [go_sem, *])
    | refine Awp.block ?_
    | (apply Awp.cond; (case hc => (simp only [go_sem, *] <;> rfl)); all_goals (intro hg; (try simp only [Bool.not_true, Bool.not_false, reduceCtorEq] at hg)))
    | refine Awp.seq ?_)
  clear c0 c1
  refine Awp.loop (fun q : Nat × List Sty => q.1 ≤ more.length ∧ checkE p.bays q.2 = 0 ∧ q.2.length ≤ 50 + q.1 ∧ ∀ i, i < q.2.length → (q.2.getD i zeroSty).item.size ≤ 100) 200 (fun q => gS p k more q.2 q.1) (fun q => more.length - q.1) (0, p.stays) ⟨by simp, hC, by dsimp only; omega, f3⟩ ?_ ?_
  · unfold gS
    (apply Ghost.mk [] []; (case hdead => rfl); (case hinj => rfl); (case hV => (simp only [go_sem, *]) <;> (repeat' (first | refine And.intro ?_ ?_ | exact View.int (by first | rfl | omega | (simp; done) | (rw [wrap_i64] <;> (try simp only [Int.natCast_add]) <;> omega) | (simp [*]; done)) | exact .bp rfl (by decide)))); (case hB => (simp only [go_sem, *]) <;> (repeat' (first | exact ⟨_, rfl, BView.boxF rfl⟩))))
  · rintro ⟨i, L⟩ ⟨hi, hCL, hLL, hLs⟩
    dsimp only at hi hCL hLL hLs
    clear h50 h50' hC f3
    by_cases hlt : i < more.length
    · have hlt' : (i : Int) < more.length := by omega
      have hat := stys_at more i hlt
      have hz : ((more.getD i zeroSty).cells).length = 8 := rfl
      have hxs := f4 i hlt
      generalize more.getD i zeroSty = x at *
      have cf := fit_ok p.bays L x x.b (by omega) (by omega)
      by_cases hfz : (fitE p.bays L x x.b).2 = 0
      case neg =>
        have hfz' : ((fitE p.bays L x x.b).2 != 0) = true := by simpa using hfz
        generalize fitE p.bays L x x.b = F at *
        clear hfz
        unfold gS
        repeat' (first
    | (apply Awp.sreg; (case hn => (simp only [List.length_cons, List.length_nil, Nat.reduceAdd] <;> rfl)))
    | (apply Awp.sdraw; (case hn => (simp only [List.length_cons, List.length_nil, Nat.reduceAdd] <;> rfl)))
    | (refine st_nil ?_)
    | (apply st_a; (case hc => rfl); (case he => (simp only [go_sem, *] <;> rfl)); (case hu => (simp only [updL_nil, updL_cons] <;> rfl)); (case hp => first | trivial | assumption | omega | (simp; done) | (simp; omega) | (simp [*]; done) | ((repeat' (refine And.intro ?_ ?_)) <;> first | trivial | assumption | omega | (simp; done) | (simp; omega) | (simp [*]; done))))
    | (apply Awp.reg; (case hn => (simp only [List.length_cons, List.length_nil, Nat.reduceAdd] <;> rfl)))
    | (refine Awp.skip ?_; try simp only [go_sem, *])
    | (refine Awp.exit ?_; try simp only [go_sem, *])
    | refine Awp.block ?_
    | (apply Awp.cond; (case hc => (simp only [go_sem, *] <;> rfl)); all_goals (intro hg; (try simp only [Bool.not_true, Bool.not_false, reduceCtorEq] at hg)))
    | refine Awp.seq ?_
    | (apply sl_a; (case hc => rfl); (case he => (simp only [go_sem, *] <;> rfl)); (case hu => (simp only [updL_nil, updL_cons] <;> rfl)); (case hl => (simp only [List.map_cons, List.map_nil] <;> rfl)); (case hp => first | trivial | assumption | omega | (simp; done) | (simp; omega) | (simp [*]; done) | ((repeat' (refine And.intro ?_ ?_)) <;> first | trivial | assumption | omega | (simp; done) | (simp; omega) | (simp [*]; done))))
    | (apply sl_c; (case hc => (simp only [go_sem, *] <;> rfl)); (case hl => (simp only [go_sem, *] <;> rfl)); (case hn => (simp only [go_sem, *] <;> rfl)); (case hp => first | exact cf | (have hXz := cf; simp only [go_sem, *] at hXz; exact hXz)); (case hd => first | exact .inl rfl | exact .inr (.v _) | exact .inr .any | exact .inr .nils); (case hm => first | decide | (simp; done)))
    | (refine sl_nil (And.intro (by first | exact drawOk_of (by decide +kernel) | (simp only [List.map_cons, List.map_nil]; exact drawOk_of (by decide +kernel)) | decide) ?_)))
        refine ⟨(i + 1, L), ⟨by dsimp only; omega, hCL, by dsimp only; omega, hLs⟩, by dsimp only; omega, ?_⟩
        (apply Ghost.mk [] []; (case hdead => rfl); (case hinj => rfl); (case hV => (simp only [go_sem, *]) <;> (repeat' (first | refine And.intro ?_ ?_ | exact View.int (by first | rfl | omega | (simp; done) | (rw [wrap_i64] <;> (try simp only [Int.natCast_add]) <;> omega) | (simp [*]; done)) | exact .bp rfl (by decide)))); (case hB => (simp only [go_sem, *]) <;> (repeat' (first | exact ⟨_, rfl, BView.boxF rfl⟩))))
      obtain ⟨K, hK⟩ : ∃ K : Nat, (K : Int) = (k).tmod 60 := ⟨(k.tmod 60).toNat, by
        rw [Int.tmod_eq_emod_of_nonneg hk0]; omega⟩
      obtain ⟨g1, g2, g3, g4⟩ := grow_step (K := K) hfz (by omega)
      have cg := fit_ok p.bays (L.eraseIdx K) x x.b (by omega) (by have : (L.eraseIdx K).length ≤ L.length := (List.eraseIdx_sublist L K).length_le; omega)
      rw [g3] at cg
      rw [hfz] at cf
      generalize (fitE p.bays L x x.b).1 = y at *
      generalize (fitE p.bays (L.eraseIdx K) x x.b).1 = z at *
      clear g3 hfz
      have g2' : y.item.size ≤ 100 := by rw [g2]; exact hxs
      clear g2
      unfold gS
      repeat' (first
    | (apply Awp.sreg; (case hn => (simp only [List.length_cons, List.length_nil, Nat.reduceAdd] <;> rfl)))
    | (apply Awp.sdraw; (case hn => (simp only [List.length_cons, List.length_nil, Nat.reduceAdd] <;> rfl)))
    | (refine st_nil ?_)
    | (apply st_a; (case hc => rfl); (case he => (simp only [go_sem, *] <;> rfl)); (case hu => (simp only [updL_nil, updL_cons] <;> rfl)); (case hp => first | trivial | assumption | omega | (simp; done) | (simp; omega) | (simp [*]; done) | ((repeat' (refine And.intro ?_ ?_)) <;> first | trivial | assumption | omega | (simp; done) | (simp; omega) | (simp [*]; done))))
    | (refine Awp.skip ?_; try simp only [go_sem, *])
    | refine Awp.block ?_
    | (apply Awp.cond; (case hc => (simp only [go_sem, *] <;> rfl)); all_goals (intro hg; (try simp only [Bool.not_true, Bool.not_false, reduceCtorEq] at hg)))
    | refine Awp.seq ?_
    | (apply sl_a; (case hc => rfl); (case he => (simp only [go_sem, *] <;> rfl)); (case hu => (simp only [updL_nil, updL_cons] <;> rfl)); (case hl => (simp only [List.map_cons, List.map_nil] <;> rfl)); (case hp => first | trivial | assumption | omega | (simp; done) | (simp; omega) | (simp [*]; done) | ((repeat' (refine And.intro ?_ ?_)) <;> first | trivial | assumption | omega | (simp; done) | (simp; omega) | (simp [*]; done))))
    | (apply sl_c; (case hc => (simp only [go_sem, *] <;> rfl)); (case hl => (simp only [go_sem, *] <;> rfl)); (case hn => (simp only [go_sem, *] <;> rfl)); (case hp => first | exact cf | (have hXz := cf; simp only [go_sem, *] at hXz; exact hXz)); (case hd => first | exact .inl rfl | exact .inr (.v _) | exact .inr .any | exact .inr .nils); (case hm => first | decide | (simp; done)))
    | (refine sl_nil (And.intro (by first | exact drawOk_of (by decide +kernel) | (simp only [List.map_cons, List.map_nil]; exact drawOk_of (by decide +kernel)) | decide) ?_)))
      refine Awp.loop (fun j : Nat => j ≤ L.length) 300 (fun j => gI p k more L i y ((L.take j).eraseIdx K) j) (fun j => L.length - j) 0 (by omega) ?_ ?_
      · refine Ghost.trans (Ghost.name 11 8 31 rfl (by decide)) ?_
        have e1 : (L.take 0).eraseIdx K = [] := by simp
        rw [e1]
        unfold gI
        (apply Ghost.mk [(1, 221), (2, 228)] []; (case hdead => rfl); (case hinj => rfl); (case hV => (simp only [go_sem, *]) <;> (repeat' (first | refine And.intro ?_ ?_ | exact View.int (by first | rfl | omega | (simp; done) | (rw [wrap_i64] <;> (try simp only [Int.natCast_add]) <;> omega) | (simp [*]; done)) | exact .bp rfl (by decide) | exact .own rfl (by decide)))); (case hB => (simp only [go_sem, *]) <;> (repeat' (first | refine And.intro ?_ ?_ | exact ⟨_, rfl, BView.boxF rfl⟩ | exact ⟨_, rfl, .rowE (by first | rfl | omega | (simp; done) | (rw [wrap_i64] <;> (try simp only [Int.natCast_add]) <;> omega) | (simp [*]; done))⟩))))
      · intro j hj
        have hLn := stys_len L
        by_cases hlt2 : j < L.length
        · have hlt2' : (j : Int) < L.length := by omega
          have hat2 := stys_at L j hlt2
          have hz2 : ((L.getD j zeroSty).cells).length = 8 := rfl
          have he := erase_step L j K hlt2
          have hel : ((L.take j).eraseIdx K).length ≤ j := by
            refine Nat.le_trans (List.eraseIdx_sublist _ _).length_le ?_
            simp; omega
          have hkn : ((j : Int) != (IntKind.i64.wrap k).tmod 60) = !decide (j = K) := by
            rw [wrap_i64 (by omega) (by omega), ← hK, Bool.eq_iff_iff]; simp; omega
          generalize (L.take j).eraseIdx K = less at *
          generalize L.getD j zeroSty = v at *
          clear hCL hLs g1 g4 cg cf
          by_cases hjk : j = K
          · rw [if_pos hjk] at he
            rw [decide_eq_true hjk] at hkn
            clear hjk hK
            try rw [List.append_nil] at he
            unfold gI
            repeat' (first
    | (apply Awp.sreg; (case hn => (simp only [List.length_cons, List.length_nil, Nat.reduceAdd] <;> rfl)))
    | (refine st_nil ?_)
    | (apply st_a; (case hc => rfl); (case he => (simp only [go_sem, *] <;> rfl)); (case hu => (simp only [updL_nil, updL_cons] <;> rfl)); (case hp => first | trivial | assumption | omega | (simp; done) | (simp; omega) | (simp [*]; done) | ((repeat' (refine And.intro ?_ ?_)) <;> first | trivial | assumption | omega | (simp; done) | (simp; omega) | (simp [*]; done))))
    | (apply Awp.reg; (case hn => (simp only [List.length_cons, List.length_nil, Nat.reduceAdd] <;> rfl)))
    | (refine Awp.skip ?_; try simp only [go_sem, *])
    | refine Awp.block ?_
    | (apply Awp.cond; (case hc => (simp only [go_sem, *] <;> rfl)); all_goals (intro hg; (try simp only [Bool.not_true, Bool.not_false, reduceCtorEq] at hg)))
    | refine Awp.seq ?_)
            refine ⟨j + 1, by omega, by omega, ?_⟩
            rw [he]
            (apply Ghost.mk [] []; (case hdead => rfl); (case hinj => rfl); (case hV => (simp only [go_sem, *]) <;> (repeat' (first | refine And.intro ?_ ?_ | exact View.int (by first | rfl | omega | (simp; done) | (rw [wrap_i64] <;> (try simp only [Int.natCast_add]) <;> omega) | (simp [*]; done)) | exact .bp rfl (by decide) | exact .own rfl (by decide)))); (case hB => (simp only [go_sem, *]) <;> (repeat' (first | refine And.intro ?_ ?_ | exact ⟨_, rfl, BView.boxF rfl⟩ | exact ⟨_, rfl, .rowE (by first | rfl | omega | (simp; done) | (rw [wrap_i64] <;> (try simp only [Int.natCast_add]) <;> omega) | (simp [*]; done))⟩))))
          · rw [if_neg hjk] at he
            rw [decide_eq_false hjk] at hkn
            clear hjk hK
            have es := stys_snoc less v
            have el := stys_len less
            have eo := stys_one less
            unfold gI
            repeat' (first
    | (apply Awp.sreg; (case hn => (simp only [List.length_cons, List.length_nil, Nat.reduceAdd] <;> rfl)))
    | (refine st_nil ?_)
    | (apply st_a; (case hc => rfl); (case he => (simp only [go_sem, *] <;> rfl)); (case hu => (simp only [updL_nil, updL_cons] <;> rfl)); (case hp => first | trivial | assumption | omega | (simp; done) | (simp; omega) | (simp [*]; done) | ((repeat' (refine And.intro ?_ ?_)) <;> first | trivial | assumption | omega | (simp; done) | (simp; omega) | (simp [*]; done))))
    | (apply Awp.reg; (case hn => (simp only [List.length_cons, List.length_nil, Nat.reduceAdd] <;> rfl)))
    | (refine Awp.skip ?_; try simp only [go_sem, *])
    | refine Awp.block ?_
    | (apply Awp.cond; (case hc => (simp only [go_sem, *] <;> rfl)); all_goals (intro hg; (try simp only [Bool.not_true, Bool.not_false, reduceCtorEq] at hg)))
    | refine Awp.seq ?_)
            refine ⟨j + 1, by omega, by omega, ?_⟩
            rw [he]
            (apply Ghost.mk [(2, 315)] []; (case hdead => rfl); (case hinj => rfl); (case hV => (simp only [go_sem, *]) <;> (repeat' (first | refine And.intro ?_ ?_ | exact View.int (by first | rfl | omega | (simp; done) | (rw [wrap_i64] <;> (try simp only [Int.natCast_add]) <;> omega) | (simp [*]; done)) | exact .bp rfl (by decide) | exact .own rfl (by decide)))); (case hB => (simp only [go_sem, *]) <;> (repeat' (first | refine And.intro ?_ ?_ | exact ⟨_, rfl, BView.boxF rfl⟩ | exact ⟨_, rfl, .rowE (by first | rfl | omega | (simp; done) | (rw [wrap_i64] <;> (try simp only [Int.natCast_add]) <;> omega) | (simp [*]; done))⟩))))
        · have hlt2' : ¬ (j : Int) < L.length := by omega
          have e1 : L.take j = L := List.take_of_length_le (by omega)
          rw [e1]
          have hza : decide (y.a < z.a) = false := by simp; omega
          have hel : (L.eraseIdx K).length ≤ L.length := (List.eraseIdx_sublist L K).length_le
          generalize L.eraseIdx K = less at *
          have es := stys_snoc L y
          have eo := stys_one L
          have el := stys_len less
          have el2 := stys_len L
          clear e1 hK g4 hlt2 hj
          unfold gI
          refine Awp.ghost (nx' := 320) (S' := gJ p k more L i y less j) (by
            unfold gJ
            (apply Ghost.mk [] [2]; (case hdead => rfl); (case hinj => rfl); (case hV => (simp only [go_sem, *]) <;> (repeat' (first | refine And.intro ?_ ?_ | exact .bp rfl (by decide) | exact View.low (Lower.ownE (by first | rfl | (simp only [go_sem, *] <;> rfl)) (by first | rfl | omega | (simp; done) | (rw [wrap_i64] <;> (try simp only [Int.natCast_add]) <;> omega) | (simp [*]; done)))))); (case hB => (simp only [go_sem, *]) <;> (repeat' (first | refine And.intro ?_ ?_ | exact ⟨_, rfl, BView.boxF rfl⟩))))) ?_
          unfold gJ
          repeat' (first
    | (apply Awp.sreg; (case hn => (simp only [List.length_cons, List.length_nil, Nat.reduceAdd] <;> rfl)))
    | (apply Awp.sdraw; (case hn => (simp only [List.length_cons, List.length_nil, Nat.reduceAdd] <;> rfl)))
    | (refine st_nil ?_)
    | (apply st_a; (case hc => rfl); (case he => (simp only [go_sem, *] <;> rfl)); (case hu => (simp only [updL_nil, updL_cons] <;> rfl)); (case hp => first | trivial | assumption | omega | (simp; done) | (simp; omega) | (simp [*]; done) | ((repeat' (refine And.intro ?_ ?_)) <;> first | trivial | assumption | omega | (simp; done) | (simp; omega) | (simp [*]; done))))
    | (apply st_m; (case hc => rfl); (case hg => (simp only [go_sem, *] <;> rfl)); (case he => (intro hQz; (try simp only [wantB_t, wantB_f, Bool.and_eq_true, Bool.not_eq_true', Bool.not_true, Bool.not_false, and_true, true_and] at hQz); simp only [go_sem, *] <;> rfl)); (case hp => (intro hQz; (try simp only [wantB_t, wantB_f, Bool.and_eq_true, Bool.not_eq_true', Bool.or_eq_false_iff, decide_eq_true_eq, decide_eq_false_iff_not, beq_iff_eq, beq_eq_false_iff_ne, bne_iff_ne, bne_eq_false_iff_eq, Int.not_lt, Int.not_le, Int.ofNat_lt, Int.ofNat_le] at hQz); first | trivial | assumption | omega | (simp; done) | (simp; omega) | (simp [*]; done) | ((repeat' (refine And.intro ?_ ?_)) <;> first | trivial | assumption | omega | (simp; done) | (simp; omega) | (simp [*]; done)))))
    | (apply Awp.reg; (case hn => (simp only [List.length_cons, List.length_nil, Nat.reduceAdd] <;> rfl)))
    | (refine Awp.skip ?_; try simp only [go_sem, *])
    | (refine Awp.exit ?_; try simp only [go_sem, *])
    | (apply Awp.cond; (case hc => (simp only [go_sem, *] <;> rfl)); all_goals (intro hg; (try simp only [Bool.not_true, Bool.not_false, reduceCtorEq] at hg)))
    | refine Awp.seq ?_
    | (refine Awp.draw ?_)
    | (apply sl_a; (case hc => rfl); (case he => (simp only [go_sem, *] <;> rfl)); (case hu => (simp only [updL_nil, updL_cons] <;> rfl)); (case hl => (simp only [List.map_cons, List.map_nil] <;> rfl)); (case hp => first | trivial | assumption | omega | (simp; done) | (simp; omega) | (simp [*]; done) | ((repeat' (refine And.intro ?_ ?_)) <;> first | trivial | assumption | omega | (simp; done) | (simp; omega) | (simp [*]; done))))
    | (apply sl_c; (case hc => (simp only [go_sem, *] <;> rfl)); (case hl => (simp only [go_sem, *] <;> rfl)); (case hn => (simp only [go_sem, *] <;> rfl)); (case hp => first | exact cg | (have hXz := cg; simp only [go_sem, *] at hXz; exact hXz)); (case hd => first | exact .inl rfl | exact .inr (.v _) | exact .inr .any | exact .inr .nils); (case hm => first | decide | (simp; done)))
    | (refine sl_nil (And.intro (by first | exact drawOk_of (by decide +kernel) | (simp only [List.map_cons, List.map_nil]; exact drawOk_of (by decide +kernel)) | decide) ?_)))
          refine ⟨(i + 1, L ++ [y]), ⟨by dsimp only; omega, g1, by simp; omega, ?_⟩, by dsimp only; omega, ?_⟩
          · intro m hm
            dsimp only at hm ⊢
            by_cases hml : m < L.length
            · rw [List.getD_eq_getElem?_getD, List.getElem?_append_left hml, ← List.getD_eq_getElem?_getD]
              exact hLs m hml
            · have e : m = L.length := by simp at hm; omega
              subst e
              rw [List.getD_eq_getElem?_getD, List.getElem?_append_right (Nat.le_refl _)]
              simpa using g2'
          (apply Ghost.mk [] [360]; (case hdead => rfl); (case hinj => rfl); (case hV => (simp only [go_sem, *]) <;> (repeat' (first | refine And.intro ?_ ?_ | exact View.int (by first | rfl | omega | (simp; done) | (rw [wrap_i64] <;> (try simp only [Int.natCast_add]) <;> omega) | (simp [*]; done)) | exact .bp rfl (by decide) | exact View.low (Lower.ownE (by first | rfl | (simp only [go_sem, *] <;> rfl)) (by first | rfl | omega | (simp; done) | (rw [wrap_i64] <;> (try simp only [Int.natCast_add]) <;> omega) | (simp [*]; done)))))); (case hB => (simp only [go_sem, *]) <;> (repeat' (first | exact ⟨_, rfl, BView.boxF rfl⟩))))
    · have hlt' : ¬ (i : Int) < more.length := by omega
      have c2 := check_ok p.bays L (by omega) (by omega)
      have c3 := rcheck_ok p.bays L (by omega) (by omega) (fun m hm => by have := hLs m hm; omega)
      rw [hCL] at c2 c3
      clear hCL hLs f4 hLL
      unfold gS
      repeat' (first
    | (apply Awp.sreg; (case hn => (simp only [List.length_cons, List.length_nil, Nat.reduceAdd] <;> rfl)))
    | (refine st_nil ?_)
    | (apply st_a; (case hc => rfl); (case he => (simp only [go_sem, *] <;> rfl)); (case hu => (simp only [updL_nil, updL_cons] <;> rfl)); (case hp => first | trivial | assumption | omega | (simp; done) | (simp; omega) | (simp [*]; done) | ((repeat' (refine And.intro ?_ ?_)) <;> first | trivial | assumption | omega | (simp; done) | (simp; omega) | (simp [*]; done))))
    | (apply st_m; (case hc => rfl); (case hg => (simp only [go_sem, *] <;> rfl)); (case he => (intro hQz; (try simp only [wantB_t, wantB_f, Bool.and_eq_true, Bool.not_eq_true', Bool.not_true, Bool.not_false, and_true, true_and] at hQz); simp only [go_sem, *] <;> rfl)); (case hp => (intro hQz; (try simp only [wantB_t, wantB_f, Bool.and_eq_true, Bool.not_eq_true', Bool.or_eq_false_iff, decide_eq_true_eq, decide_eq_false_iff_not, beq_iff_eq, beq_eq_false_iff_ne, bne_iff_ne, bne_eq_false_iff_eq, Int.not_lt, Int.not_le, Int.ofNat_lt, Int.ofNat_le] at hQz); first | trivial | assumption | omega | (simp; done) | (simp; omega) | (simp [*]; done) | ((repeat' (refine And.intro ?_ ?_)) <;> first | trivial | assumption | omega | (simp; done) | (simp; omega) | (simp [*]; done)))))
    | (apply st_c; (case hc => (simp only [go_sem, *] <;> rfl)); (case hl => (simp only [go_sem, *] <;> rfl)); (case hn => (simp only [go_sem, *] <;> rfl)); (case hp => first | exact c2 | (have hXz := c2; simp only [go_sem, *] at hXz; exact hXz)))
    | (apply st_mc; (case hop => rfl); (case hg => (simp only [go_sem, *] <;> rfl)); (case hc => (intro hQz; (try simp only [wantB_t, wantB_f, Bool.and_eq_true, Bool.not_eq_true', Bool.not_true, Bool.not_false, and_true, true_and] at hQz); simp only [go_sem, *] <;> rfl)); (case hl => (intro hQz; (try simp only [wantB_t, wantB_f, Bool.and_eq_true, Bool.not_eq_true', Bool.not_true, Bool.not_false, and_true, true_and] at hQz); simp only [go_sem, *] <;> rfl)); (case hn => (intro hQz; (try simp only [wantB_t, wantB_f, Bool.and_eq_true, Bool.not_eq_true', Bool.not_true, Bool.not_false, and_true, true_and] at hQz); simp only [go_sem, *] <;> rfl)); (case hp => intro hQz; first | exact c3 | (have hXz := c3; simp only [go_sem, *] at hXz; exact hXz)))
    | (apply st_mc; (case hop => rfl); (case hg => (simp only [go_sem, *] <;> rfl)); (case hc => (intro hQz; (try simp only [wantB_t, wantB_f, Bool.and_eq_true, Bool.not_eq_true', Bool.not_true, Bool.not_false, and_true, true_and] at hQz); simp only [go_sem, *] <;> rfl)); (case hl => (intro hQz; (try simp only [wantB_t, wantB_f, Bool.and_eq_true, Bool.not_eq_true', Bool.not_true, Bool.not_false, and_true, true_and] at hQz); simp only [go_sem, *] <;> rfl)); (case hn => (intro hQz; (try simp only [wantB_t, wantB_f, Bool.and_eq_true, Bool.not_eq_true', Bool.not_true, Bool.not_false, and_true, true_and] at hQz); simp only [go_sem, *] <;> rfl)); (case hp => intro hQz; first | exact awake_ok | (have hXz := awake_ok; simp only [go_sem, *] at hXz; exact hXz)))
    | (refine Awp.ret ?_; try simp only [go_sem, *])
    | (refine Awp.exit ?_; try simp only [go_sem, *])
    | (apply Awp.cond; (case hc => (simp only [go_sem, *] <;> rfl)); all_goals (intro hg; (try simp only [Bool.not_true, Bool.not_false, reduceCtorEq] at hg)))
    | refine Awp.seq ?_)
      all_goals repeat' (first | exact Lower.bool (by first | rfl | (simp only [true_and, Bool.true_and, Bool.false_and, Bool.and_true, Bool.and_false, Bool.true_or, Bool.false_or, reduceIte, Bool.false_eq_true, *]; done) | (simp only [true_and, reduceIte, Bool.false_eq_true, *] <;> rfl) | (simp [true_and]; done) | (simp_all [true_and]; done) | omega))
theorem u8_inQ {k : Int} (hk : (Lit.int .u8 k).wf = true) : 0 ≤ k ∧ k < 256 := by
  have h := (Lit.wf_int_iff .u8 k).1 hk
  have e1 : IntKind.u8.min = 0 := by decide +kernel
  have e2 : IntKind.u8.max = 255 := by decide +kernel
  omega
theorem grows_ok2 (p : Pl) (more : List Sty) (k : Int) (hk : (Lit.int .u8 k).wf = true) : Pure Tryd.prog 8 [p.av, .sl (stys more), .v (.int .u8 k)] (.v (.bool true)) := grows_ok p more k (u8_inQ hk).1 (u8_inQ hk).2
end Go.Proofs
end
