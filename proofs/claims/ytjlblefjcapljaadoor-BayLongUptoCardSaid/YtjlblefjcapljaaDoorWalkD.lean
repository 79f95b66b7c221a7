import Derived.Test.YtjlblefjcapljaaDoorWalkB
import Derived.DataShut
import Derived.Test.YtjlblefjcapljaaDoorWalkC
section
set_option linter.unusedVariables false
set_option linter.unusedSimpArgs false
namespace Go.Proofs
open Go Go.Ab
set_option linter.unusedSimpArgs false
set_option linter.unusedVariables false
theorem firstE_zero (f : Nat → Int) (n : Nat) : firstE f n = 0 ↔ ∀ i, i < n → f i = 0 := by
  constructor
  · intro h i hi
    unfold firstE at h
    cases hf : (List.range n).find? (fun i => f i != 0) with
    | none =>
      rw [List.find?_eq_none] at hf
      have := hf i (List.mem_range.2 hi)
      simpa using this
    | some j =>
      rw [hf] at h
      have := List.find?_some hf
      simp only [bne_iff_ne, ne_eq] at this
      exact absurd h this
  · intro h
    exact firstE_end (Nat.le_refl n) fun j hj => h j hj
def good (bs : List By) (x : Sty) : Bool := idB x.item && (findB bs x.bay).2 && !rngB x && !offB (findB bs x.bay).1 x
theorem stayE_zero (bs : List By) (l : List Sty) (x : Sty) : stayE bs l x = 0 ↔ good bs x = true ∧ ∀ q ∈ l, overB x q = false := by
  unfold stayE good
  cases idB x.item <;> cases (findB bs x.bay).2 <;> cases rngB x <;> cases offB (findB bs x.bay).1 x <;> simp
theorem cutB_symm (a la b lb : Int) : cutB a la b lb = cutB b lb a la := by unfold cutB; rw [Bool.and_comm]
theorem overB_symm (p q : Sty) : overB p q = overB q p := by
  unfold overB
  rw [cutB_symm p.x, cutB_symm p.y, Bool.beq_comm]
  cases (q.bay.toList == p.bay.toList) <;> cases decide (p.a < q.b) <;> cases decide (q.a < p.b) <;> rfl
def apart (p q : Sty) : Prop := overB p q = false
def baysOk (bs : List By) : Prop := bs.length ≤ 8 ∧ ∀ i, i < bs.length → bayAt bs i = 0
theorem checkE_iff (bs : List By) (l : List Sty) : checkE bs l = 0 ↔ baysOk bs ∧ l.length ≤ 128 ∧ (∀ x ∈ l, good bs x = true) ∧ l.Pairwise apart := by
  have hst : firstE (fun i => stayE bs (l.take i) (l.getD i zeroSty)) l.length = 0 ↔ (∀ x ∈ l, good bs x = true) ∧ l.Pairwise apart := by
    rw [firstE_zero]
    have hget : ∀ i (h : i < l.length), l.getD i zeroSty = l[i] := fun i h => by simp [List.getD_eq_getElem?_getD, h]
    constructor
    · intro h
      refine ⟨fun x hx => ?_, List.pairwise_iff_getElem.2 fun i j hi hj hij => ?_⟩
      · obtain ⟨i, hi, rfl⟩ := List.getElem_of_mem hx
        have := ((stayE_zero _ _ _).1 (h i hi)).1
        rwa [hget i hi] at this
      · have := ((stayE_zero _ _ _).1 (h j hj)).2 l[i] (List.mem_take_iff_getElem.2 ⟨i, by omega, rfl⟩)
        rw [hget j hj, overB_symm] at this
        exact this
    · rintro ⟨h1, h2⟩ i hi
      rw [stayE_zero, hget i hi]
      refine ⟨h1 _ (List.getElem_mem hi), fun q hq => ?_⟩
      obtain ⟨j, hj, rfl⟩ := List.mem_take_iff_getElem.1 hq
      have := List.pairwise_iff_getElem.1 h2 j i (by omega) hi (by omega)
      rw [overB_symm]
      exact this
  unfold checkE
  by_cases h1 : bs.length ≤ 8 ∧ l.length ≤ 128
  · rw [if_neg (by simp; omega)]
    by_cases h2 : firstE (bayAt bs) bs.length = 0
    · rw [if_neg (by rw [h2]; simp), hst]
      exact ⟨fun h => ⟨⟨h1.1, (firstE_zero _ _).1 h2⟩, h1.2, h⟩, fun h => h.2.2⟩
    · rw [if_pos (by simpa using h2)]
      exact ⟨fun h => absurd h h2, fun h => absurd ((firstE_zero _ _).2 h.1.2) h2⟩
  · rw [if_pos (by simp; omega)]
    exact ⟨fun h => by simp at h, fun h => absurd ⟨h.1.1, h.2.1⟩ h1⟩
theorem check_rev {bs : List By} {l : List Sty} (h : checkE bs l = 0) : checkE bs l.reverse = 0 := by
  rw [checkE_iff] at h ⊢
  refine ⟨h.1, by simpa using h.2.1, fun x hx => h.2.2.1 x (List.mem_reverse.1 hx), ?_⟩
  rw [List.pairwise_reverse]
  exact h.2.2.2.imp fun {a b} hab => by unfold apart at *; rw [overB_symm]; exact hab
theorem check_sub {bs : List By} {l m : List Sty} (h : checkE bs l = 0) (hs : m.Sublist l) : checkE bs m = 0 := by
  rw [checkE_iff] at h ⊢
  exact ⟨h.1, Nat.le_trans hs.length_le h.2.1, fun x hx => h.2.2.1 x (hs.subset hx), h.2.2.2.sublist hs⟩
theorem check_add {bs : List By} {l : List Sty} {x : Sty} (h : checkE bs l = 0) (hl : l.length < 128) (hx : stayE bs l x = 0) : checkE bs (l ++ [x]) = 0 := by
  rw [checkE_iff] at h ⊢
  rw [stayE_zero] at hx
  refine ⟨h.1, by simp; omega, fun y hy => ?_, ?_⟩
  · rcases List.mem_append.1 hy with hy | hy
    · exact h.2.2.1 y hy
    · rw [List.mem_singleton.1 hy]; exact hx.1
  · rw [List.pairwise_append]
    refine ⟨h.2.2.2, by simp, fun a ha b hb => ?_⟩
    rw [List.mem_singleton.1 hb]
    unfold apart
    rw [overB_symm]
    exact hx.2 a ha
/-- A stay has a small square at a time. -/
def holdB (p : Sty) (q : Sty) : Bool := (q.bay.toList == p.bay.toList) && decide (q.x ≤ p.x) && decide (p.x < IntKind.i64.wrap (q.x + q.len)) && decide (q.y ≤ p.y) && decide (p.y < IntKind.i64.wrap (q.y + q.wid)) && decide (q.a ≤ p.a) && decide (p.a < q.b)
theorem hold_over {p q r : Sty} (hq : holdB p q = true) (hr : holdB p r = true) : overB q r = true := by
  unfold holdB at hq hr
  simp only [Bool.and_eq_true, decide_eq_true_eq, beq_iff_eq] at hq hr
  unfold overB cutB
  simp only [Bool.and_eq_true, decide_eq_true_eq, beq_iff_eq]
  refine ⟨⟨⟨⟨?_, ?_⟩, ?_⟩, ?_, ?_⟩, ?_, ?_⟩
  · rw [hq.1.1.1.1.1.1, hr.1.1.1.1.1.1]
  all_goals omega
theorem hold_once {bs : List By} {l : List Sty} (h : checkE bs l = 0) (p : Sty) : (l.filter (holdB p)).length ≤ 1 := by
  have h1 := ((checkE_iff bs l).1 h).2.2.2.sublist (List.filter_sublist (p := holdB p) (l := l))
  match hm : l.filter (holdB p) with
  | [] => simp
  | [a] => simp
  | a :: b :: m =>
    exfalso
    rw [hm] at h1
    have hab : apart a b := (List.pairwise_cons.1 h1).1 b (List.mem_cons.2 (.inl rfl))
    have ha : a ∈ l.filter (holdB p) := by rw [hm]; simp
    have hb : b ∈ l.filter (holdB p) := by rw [hm]; simp
    have := hold_over (List.mem_filter.1 ha).2 (List.mem_filter.1 hb).2
    rw [hab] at this
    cases this
theorem erase_step (l : List Sty) (i K : Nat) (h : i < l.length) : (l.take (i + 1)).eraseIdx K = (l.take i).eraseIdx K ++ (if i = K then [] else [l.getD i zeroSty]) := by
  have hl : (l.take i).length = i := by simp; omega
  rw [take_snoc l zeroSty i h]
  by_cases h1 : K < i
  · rw [List.eraseIdx_append_of_lt_length (by omega), if_neg (by omega)]
  · rw [List.eraseIdx_append_of_length_le (by omega), hl, List.eraseIdx_of_length_le (l := l.take i) (by omega)]
    by_cases h2 : i = K
    · subst h2; simp
    · rw [if_neg h2, List.eraseIdx_of_length_le (by simp; omega)]
end Go.Proofs
end
section
set_option linter.unusedVariables false
set_option linter.unusedSimpArgs false
namespace Go.Proofs
open Go Go.Ab
set_option maxHeartbeats 4000000
set_option maxRecDepth 100000
set_option linter.unusedSimpArgs false
set_option linter.unusedVariables false
attribute [local irreducible] Awp aops aopsL Go.Ab.Pure PureOwn
theorem stys_cons (y : Sty) (l : List Sty) : [[AV.v (.string y.item), .v (.string y.bay), .v (.int .i64 y.x), .v (.int .i64 y.y), .v (.int .i64 y.len), .v (.int .i64 y.wid), .v (.int .i64 y.a), .v (.int .i64 y.b)]] ++ stys l = stys (y :: l) := rfl
def atS (p : Pl) (x : Sty) (k : Int) (n : Nat) (back less : List Sty) (i : Nat) : AState :=
  mkS [(2, .v (.int .u8 k)), (3, .bp 0 0), (4, .bp 1 0), (7, .v (.int .i64 n)), (8, .own 2), (9, .own 3), (10, .v (.int .i64 i))]
    [(0, .box [.sl (bys p.bays), .sl (stys p.stays)]), (1, .box x.cells), (2, .row (stys back) 8 31), (3, .row (stys less) 8 31)]
theorem apart_ok (p : Pl) (x : Sty) (k : Int) (hk0 : 0 ≤ k) (hk1 : k < 256) : Pure Tryd.prog 7 [p.av, x.av, .v (.int .u8 k)] (.v (.bool true)) := by
  have c0 := few_ok p.bays p.stays
  cases h1 : fewB p.bays p.stays
  · rw [h1] at c0
    refine fn_pure Tryd.F7 (Nat.le_of_ble_eq_true rfl) ?_; unfold Tryd.ac7
    repeat' (first
    | (apply Awp.sreg; (case hn => (simp only [List.length_cons, List.length_nil, Nat.reduceAdd] <;> rfl)))
    | (refine st_nil ?_)
    | (apply st_a; (case hc => rfl); (case he => (simp only [go_sem, *] <;> rfl)); (case hu => (simp only [updL_nil, updL_cons] <;> rfl)); (case hp => first | trivial | assumption | omega | (simp; done) | (simp; omega) | (simp [*]; done) | ((repeat' (refine And.intro ?_ ?_)) <;> first | trivial | assumption | omega | (simp; done) | (simp; omega) | (simp [*]; done))))
    | (apply st_m; (case hc => rfl); (case hg => (simp only [go_sem, *] <;> rfl)); (case he => (intro hQz; (try simp only [wantB_t, wantB_f, Bool.and_eq_true, Bool.not_eq_true', Bool.not_true, Bool.not_false, and_true, true_and] at hQz); simp only [go_sem, *] <;> rfl)); (case hp => (intro hQz; (try simp only [wantB_t, wantB_f, Bool.and_eq_true, Bool.not_eq_true', Bool.or_eq_false_iff, decide_eq_true_eq, decide_eq_false_iff_not, beq_iff_eq, beq_eq_false_iff_ne, bne_iff_ne, bne_eq_false_iff_eq, Int.not_lt, Int.not_le, Int.ofNat_lt, Int.ofNat_le] at hQz); first | trivial | assumption | omega | (simp; done) | (simp; omega) | (simp [*]; done) | ((repeat' (refine And.intro ?_ ?_)) <;> first | trivial | assumption | omega | (simp; done) | (simp; omega) | (simp [*]; done)))))
    | (apply st_c; (case hc => (simp only [go_sem, *] <;> rfl)); (case hl => (simp only [go_sem, *] <;> rfl)); (case hn => (simp only [go_sem, *] <;> rfl)); (case hp => first | exact c0 | (have hXz := c0; simp only [go_sem, *] at hXz; exact hXz)))
    | (apply st_c; (case hc => (simp only [go_sem, *] <;> rfl)); (case hl => (simp only [go_sem, *] <;> rfl)); (case hn => (simp only [go_sem, *] <;> rfl)); (case hp => first | exact awake_ok | (have hXz := awake_ok; simp only [go_sem, *] at hXz; exact hXz)))
    | (apply st_g; (case hv => (simp only [go_sem, *] <;> rfl)); all_goals (intro hg; (try simp only [Bool.not_true, Bool.not_false, reduceCtorEq] at hg)))
    | (refine Awp.ret ?_; try simp only [go_sem, *])
    | (apply Awp.cond; (case hc => (simp only [go_sem, *] <;> rfl)); all_goals (intro hg; (try simp only [Bool.not_true, Bool.not_false, reduceCtorEq] at hg)))
    | refine Awp.seq ?_)
    all_goals repeat' (first | exact Lower.bool (by first | rfl | (simp only [true_and, Bool.true_and, Bool.false_and, Bool.and_true, Bool.and_false, Bool.true_or, Bool.false_or, reduceIte, Bool.false_eq_true, *]; done) | (simp only [true_and, reduceIte, Bool.false_eq_true, *] <;> rfl) | (simp [true_and]; done) | (simp_all [true_and]; done) | omega))
  obtain ⟨f1, f2, f3⟩ := few_size h1
  have c2 := check_ok p.bays p.stays (by omega) (by omega)
  rw [h1] at c0
  clear h1 f3
  by_cases hC : checkE p.bays p.stays = 0
  case neg =>
    have hC' : (checkE p.bays p.stays != 0) = true := by simpa using hC
    generalize checkE p.bays p.stays = e at *
    refine fn_pure Tryd.F7 (Nat.le_of_ble_eq_true rfl) ?_; unfold Tryd.ac7
    repeat' (first
    | (apply Awp.sreg; (case hn => (simp only [List.length_cons, List.length_nil, Nat.reduceAdd] <;> rfl)))
    | (refine st_nil ?_)
    | (apply st_a; (case hc => rfl); (case he => (simp only [go_sem, *] <;> rfl)); (case hu => (simp only [updL_nil, updL_cons] <;> rfl)); (case hp => first | trivial | assumption | omega | (simp; done) | (simp; omega) | (simp [*]; done) | ((repeat' (refine And.intro ?_ ?_)) <;> first | trivial | assumption | omega | (simp; done) | (simp; omega) | (simp [*]; done))))
    | (apply st_m; (case hc => rfl); (case hg => (simp only [go_sem, *] <;> rfl)); (case he => (intro hQz; (try simp only [wantB_t, wantB_f, Bool.and_eq_true, Bool.not_eq_true', Bool.not_true, Bool.not_false, and_true, true_and] at hQz); simp only [go_sem, *] <;> rfl)); (case hp => (intro hQz; (try simp only [wantB_t, wantB_f, Bool.and_eq_true, Bool.not_eq_true', Bool.or_eq_false_iff, decide_eq_true_eq, decide_eq_false_iff_not, beq_iff_eq, beq_eq_false_iff_ne, bne_iff_ne, bne_eq_false_iff_eq, Int.not_lt, Int.not_le, Int.ofNat_lt, Int.ofNat_le] at hQz); first | trivial | assumption | omega | (simp; done) | (simp; omega) | (simp [*]; done) | ((repeat' (refine And.intro ?_ ?_)) <;> first | trivial | assumption | omega | (simp; done) | (simp; omega) | (simp [*]; done)))))
    | (apply st_c; (case hc => (simp only [go_sem, *] <;> rfl)); (case hl => (simp only [go_sem, *] <;> rfl)); (case hn => (simp only [go_sem, *] <;> rfl)); (case hp => first | exact c0 | (have hXz := c0; simp only [go_sem, *] at hXz; exact hXz)))
    | (apply st_mc; (case hop => rfl); (case hg => (simp only [go_sem, *] <;> rfl)); (case hc => (intro hQz; (try simp only [wantB_t, wantB_f, Bool.and_eq_true, Bool.not_eq_true', Bool.not_true, Bool.not_false, and_true, true_and] at hQz); simp only [go_sem, *] <;> rfl)); (case hl => (intro hQz; (try simp only [wantB_t, wantB_f, Bool.and_eq_true, Bool.not_eq_true', Bool.not_true, Bool.not_false, and_true, true_and] at hQz); simp only [go_sem, *] <;> rfl)); (case hn => (intro hQz; (try simp only [wantB_t, wantB_f, Bool.and_eq_true, Bool.not_eq_true', Bool.not_true, Bool.not_false, and_true, true_and] at hQz); simp only [go_sem, *] <;> rfl)); (case hp => intro hQz; first | exact c2 | (have hXz := c2; simp only [go_sem, *] at hXz; exact hXz)))
    | (apply st_c; (case hc => (simp only [go_sem, *] <;> rfl)); (case hl => (simp only [go_sem, *] <;> rfl)); (case hn => (simp only [go_sem, *] <;> rfl)); (case hp => first | exact awake_ok | (have hXz := awake_ok; simp only [go_sem, *] at hXz; exact hXz)))
    | (refine Awp.ret ?_; try simp only [go_sem, *])
    | (apply Awp.cond; (case hc => (simp only [go_sem, *] <;> rfl)); all_goals (intro hg; (try simp only [Bool.not_true, Bool.not_false, reduceCtorEq] at hg)))
    | refine Awp.seq ?_)
    all_goals repeat' (first | exact Lower.bool (by first | rfl | (simp only [true_and, Bool.true_and, Bool.false_and, Bool.and_true, Bool.and_false, Bool.true_or, Bool.false_or, reduceIte, Bool.false_eq_true, *]; done) | (simp only [true_and, reduceIte, Bool.false_eq_true, *] <;> rfl) | (simp [true_and]; done) | (simp_all [true_and]; done) | omega))
  rw [hC] at c2
  refine fn_pure Tryd.F7 (Nat.le_of_ble_eq_true rfl) ?_; unfold Tryd.ac7
  repeat' (first
    | (apply Awp.sreg; (case hn => (simp only [List.length_cons, List.length_nil, Nat.reduceAdd] <;> rfl)))
    | (refine st_nil ?_)
    | (apply st_a; (case hc => rfl); (case he => (simp only [go_sem, *] <;> rfl)); (case hu => (simp only [updL_nil, updL_cons] <;> rfl)); (case hp => first | trivial | assumption | omega | (simp; done) | (simp; omega) | (simp [*]; done) | ((repeat' (refine And.intro ?_ ?_)) <;> first | trivial | assumption | omega | (simp; done) | (simp; omega) | (simp [*]; done))))
    | (apply st_m; (case hc => rfl); (case hg => (simp only [go_sem, *] <;> rfl)); (case he => (intro hQz; (try simp only [wantB_t, wantB_f, Bool.and_eq_true, Bool.not_eq_true', Bool.not_true, Bool.not_false, and_true, true_and] at hQz); simp only [go_sem, *] <;> rfl)); (case hp => (intro hQz; (try simp only [wantB_t, wantB_f, Bool.and_eq_true, Bool.not_eq_true', Bool.or_eq_false_iff, decide_eq_true_eq, decide_eq_false_iff_not, beq_iff_eq, beq_eq_false_iff_ne, bne_iff_ne, bne_eq_false_iff_eq, Int.not_lt, Int.not_le, Int.ofNat_lt, Int.ofNat_le] at hQz); first | trivial | assumption | omega | (simp; done) | (simp; omega) | (simp [*]; done) | ((repeat' (refine And.intro ?_ ?_)) <;> first | trivial | assumption | omega | (simp; done) | (simp; omega) | (simp [*]; done)))))
    | (apply st_c; (case hc => (simp only [go_sem, *] <;> rfl)); (case hl => (simp only [go_sem, *] <;> rfl)); (case hn => (simp only [go_sem, *] <;> rfl)); (case hp => first | exact c0 | (have hXz := c0; simp only [go_sem, *] at hXz; exact hXz)))
    | (apply st_mc; (case hop => rfl); (case hg => (simp only [go_sem, *] <;> rfl)); (case hc => (intro hQz; (try simp only [wantB_t, wantB_f, Bool.and_eq_true, Bool.not_eq_true', Bool.not_true, Bool.not_false, and_true, true_and] at hQz); simp only [go_sem, *] <;> rfl)); (case hl => (intro hQz; (try simp only [wantB_t, wantB_f, Bool.and_eq_true, Bool.not_eq_true', Bool.not_true, Bool.not_false, and_true, true_and] at hQz); simp only [go_sem, *] <;> rfl)); (case hn => (intro hQz; (try simp only [wantB_t, wantB_f, Bool.and_eq_true, Bool.not_eq_true', Bool.not_true, Bool.not_false, and_true, true_and] at hQz); simp only [go_sem, *] <;> rfl)); (case hp => intro hQz; first | exact c2 | (have hXz := c2; simp only [go_sem, *] at hXz; exact hXz)))
    | (refine Awp.skip ?_; try simp only [go_sem, *])
    | refine Awp.block ?_
    | (apply Awp.cond; (case hc => (simp only [go_sem, *] <;> rfl)); all_goals (intro hg; (try simp only [Bool.not_true, Bool.not_false, reduceCtorEq] at hg)))
    | refine Awp.seq ?_)
  clear c0 c2
  refine Awp.loop (fun i : Nat => i ≤ p.stays.length) 150 (fun i => atS p x k ((p.stays.take i).filter (holdB x)).length (p.stays.take i).reverse ((p.stays.take i).eraseIdx k.toNat) i) (fun i => p.stays.length - i) 0 (by omega) ?_ ?_
  · refine Ghost.trans (Ghost.name 8 8 31 rfl (by decide)) ?_
    refine Ghost.trans (Ghost.name 9 8 31 rfl (by decide)) ?_
    have e0 : p.stays.take 0 = [] := rfl
    have e1 : ([] : List Sty).eraseIdx k.toNat = [] := by simp
    rw [e0, e1]
    simp only [List.filter_nil, List.reverse_nil, List.length_nil]
    unfold atS
    (apply Ghost.mk [(2, 21), (3, 22)] []; (case hdead => rfl); (case hinj => rfl); (case hV => (simp only [go_sem, *]) <;> (repeat' (first | refine And.intro ?_ ?_ | exact View.int (by first | rfl | omega | (simp; done) | (rw [wrap_i64] <;> (try simp only [Int.natCast_add]) <;> omega) | (simp [*]; done)) | exact .bp rfl (by decide) | exact .own rfl (by decide)))); (case hB => (simp only [go_sem, *]) <;> (repeat' (first | refine And.intro ?_ ?_ | exact ⟨_, rfl, BView.boxF rfl⟩ | exact ⟨_, rfl, .rowE (by first | rfl | omega | (simp; done) | (rw [wrap_i64] <;> (try simp only [Int.natCast_add]) <;> omega) | (simp [*]; done))⟩))))
  · intro i hi
    by_cases hlt : i < p.stays.length
    · have hlt' : (i : Int) < p.stays.length := by omega
      have hat := stys_at p.stays i hlt
      have hz : ((p.stays.getD i zeroSty).cells).length = 8 := rfl
      have hfl : ((p.stays.take i).filter (holdB x)).length ≤ i := by
        refine Nat.le_trans (List.length_filter_le _ _) ?_
        simp; omega
      have hel : ((p.stays.take i).eraseIdx k.toNat).length ≤ i := by
        refine Nat.le_trans (List.eraseIdx_sublist _ _).length_le ?_
        simp; omega
      have hrl : (p.stays.take i).reverse.length = i := by simp; omega
      have he := erase_step p.stays i k.toNat hlt
      have hr : (p.stays.take (i + 1)).reverse = p.stays.getD i zeroSty :: (p.stays.take i).reverse := by rw [take_snoc p.stays zeroSty i hlt]; simp
      have hf : ((p.stays.take (i + 1)).filter (holdB x)).length = ((p.stays.take i).filter (holdB x)).length + (if holdB x (p.stays.getD i zeroSty) = true then 1 else 0) := by
        rw [take_snoc p.stays zeroSty i hlt, List.filter_append, List.length_append]
        congr 1
        generalize p.stays.getD i zeroSty = z
        cases hz : holdB x z <;> simp [hz]
      have hkn : ((i : Int) != k) = !decide (i = k.toNat) := by
        rw [Bool.eq_iff_iff]; simp; omega
      generalize ((p.stays.take i).filter (holdB x)).length = n at *
      generalize (p.stays.take i).reverse = back at *
      generalize (p.stays.take i).eraseIdx k.toNat = less at *
      generalize p.stays.getD i zeroSty = q at *
      rcases Bool.eq_false_or_eq_true (holdB x q) with hB | hB <;> by_cases hik : i = k.toNat
      · have hB' := hB
        unfold holdB at hB'
        have hkk : ((i : Int) != k) = false := by rw [hkn]; simp [hik]
        rw [if_pos hik] at he
        rw [if_pos hB] at hf
        clear hik hB hkn
        try rw [List.append_nil] at he
        have es := stys_snoc less q
        have es2 := stys_cons q back
        have ho := stys_one back
        have hw : IntKind.i64.wrap k = k := wrap_i64 (by omega) (by omega)
        have el := stys_len back
        have el2 := stys_len less
        unfold atS
        repeat' (first
    | (apply Awp.sreg; (case hn => (simp only [List.length_cons, List.length_nil, Nat.reduceAdd] <;> rfl)))
    | (refine st_nil ?_)
    | (apply st_a; (case hc => rfl); (case he => (simp only [go_sem, *] <;> rfl)); (case hu => (simp only [updL_nil, updL_cons] <;> rfl)); (case hp => first | trivial | assumption | omega | (simp; done) | (simp; omega) | (simp [*]; done) | ((repeat' (refine And.intro ?_ ?_)) <;> first | trivial | assumption | omega | (simp; done) | (simp; omega) | (simp [*]; done))))
    | (apply st_m; (case hc => rfl); (case hg => (simp only [go_sem, *] <;> rfl)); (case he => (intro hQz; (try simp only [wantB_t, wantB_f, Bool.and_eq_true, Bool.not_eq_true', Bool.not_true, Bool.not_false, and_true, true_and] at hQz); simp only [go_sem, *] <;> rfl)); (case hp => (intro hQz; (try simp only [wantB_t, wantB_f, Bool.and_eq_true, Bool.not_eq_true', Bool.or_eq_false_iff, decide_eq_true_eq, decide_eq_false_iff_not, beq_iff_eq, beq_eq_false_iff_ne, bne_iff_ne, bne_eq_false_iff_eq, Int.not_lt, Int.not_le, Int.ofNat_lt, Int.ofNat_le] at hQz); first | trivial | assumption | omega | (simp; done) | (simp; omega) | (simp [*]; done) | ((repeat' (refine And.intro ?_ ?_)) <;> first | trivial | assumption | omega | (simp; done) | (simp; omega) | (simp [*]; done)))))
    | (apply Awp.reg; (case hn => (simp only [List.length_cons, List.length_nil, Nat.reduceAdd] <;> rfl)))
    | (refine Awp.skip ?_; try simp only [go_sem, *])
    | refine Awp.block ?_
    | (apply Awp.cond; (case hc => (simp only [go_sem, *] <;> rfl)); all_goals (intro hg; (try simp only [Bool.not_true, Bool.not_false, reduceCtorEq] at hg)))
    | refine Awp.seq ?_)
        refine ⟨i + 1, by omega, by omega, ?_⟩
        rw [hr, he, hf]
        (apply Ghost.mk [(2, 233)] []; (case hdead => rfl); (case hinj => rfl); (case hV => (simp only [go_sem, *]) <;> (repeat' (first | refine And.intro ?_ ?_ | exact View.int (by first | rfl | omega | (simp; done) | (rw [wrap_i64] <;> (try simp only [Int.natCast_add]) <;> omega) | (simp [*]; done)) | exact .bp rfl (by decide) | exact .own rfl (by decide)))); (case hB => (simp only [go_sem, *]) <;> (repeat' (first | refine And.intro ?_ ?_ | exact ⟨_, rfl, BView.boxF rfl⟩ | exact ⟨_, rfl, .rowE (by first | rfl | omega | (simp; done) | (rw [wrap_i64] <;> (try simp only [Int.natCast_add]) <;> omega) | (simp [*]; done))⟩))))
      · have hB' := hB
        unfold holdB at hB'
        have hkk : ((i : Int) != k) = true := by rw [hkn]; simp [hik]
        rw [if_neg hik] at he
        rw [if_pos hB] at hf
        clear hik hB hkn
        try rw [List.append_nil] at he
        have es := stys_snoc less q
        have es2 := stys_cons q back
        have ho := stys_one back
        have hw : IntKind.i64.wrap k = k := wrap_i64 (by omega) (by omega)
        have el := stys_len back
        have el2 := stys_len less
        unfold atS
        repeat' (first
    | (apply Awp.sreg; (case hn => (simp only [List.length_cons, List.length_nil, Nat.reduceAdd] <;> rfl)))
    | (refine st_nil ?_)
    | (apply st_a; (case hc => rfl); (case he => (simp only [go_sem, *] <;> rfl)); (case hu => (simp only [updL_nil, updL_cons] <;> rfl)); (case hp => first | trivial | assumption | omega | (simp; done) | (simp; omega) | (simp [*]; done) | ((repeat' (refine And.intro ?_ ?_)) <;> first | trivial | assumption | omega | (simp; done) | (simp; omega) | (simp [*]; done))))
    | (apply st_m; (case hc => rfl); (case hg => (simp only [go_sem, *] <;> rfl)); (case he => (intro hQz; (try simp only [wantB_t, wantB_f, Bool.and_eq_true, Bool.not_eq_true', Bool.not_true, Bool.not_false, and_true, true_and] at hQz); simp only [go_sem, *] <;> rfl)); (case hp => (intro hQz; (try simp only [wantB_t, wantB_f, Bool.and_eq_true, Bool.not_eq_true', Bool.or_eq_false_iff, decide_eq_true_eq, decide_eq_false_iff_not, beq_iff_eq, beq_eq_false_iff_ne, bne_iff_ne, bne_eq_false_iff_eq, Int.not_lt, Int.not_le, Int.ofNat_lt, Int.ofNat_le] at hQz); first | trivial | assumption | omega | (simp; done) | (simp; omega) | (simp [*]; done) | ((repeat' (refine And.intro ?_ ?_)) <;> first | trivial | assumption | omega | (simp; done) | (simp; omega) | (simp [*]; done)))))
    | (apply Awp.reg; (case hn => (simp only [List.length_cons, List.length_nil, Nat.reduceAdd] <;> rfl)))
    | (refine Awp.skip ?_; try simp only [go_sem, *])
    | refine Awp.block ?_
    | (apply Awp.cond; (case hc => (simp only [go_sem, *] <;> rfl)); all_goals (intro hg; (try simp only [Bool.not_true, Bool.not_false, reduceCtorEq] at hg)))
    | refine Awp.seq ?_)
        refine ⟨i + 1, by omega, by omega, ?_⟩
        rw [hr, he, hf]
        (apply Ghost.mk [(2, 233), (3, 242)] []; (case hdead => rfl); (case hinj => rfl); (case hV => (simp only [go_sem, *]) <;> (repeat' (first | refine And.intro ?_ ?_ | exact View.int (by first | rfl | omega | (simp; done) | (rw [wrap_i64] <;> (try simp only [Int.natCast_add]) <;> omega) | (simp [*]; done)) | exact .bp rfl (by decide) | exact .own rfl (by decide)))); (case hB => (simp only [go_sem, *]) <;> (repeat' (first | refine And.intro ?_ ?_ | exact ⟨_, rfl, BView.boxF rfl⟩ | exact ⟨_, rfl, .rowE (by first | rfl | omega | (simp; done) | (rw [wrap_i64] <;> (try simp only [Int.natCast_add]) <;> omega) | (simp [*]; done))⟩))))
      · have hB' := hB
        unfold holdB at hB'
        have hkk : ((i : Int) != k) = false := by rw [hkn]; simp [hik]
        rw [if_pos hik] at he
        rw [if_neg (by rw [hB]; simp)] at hf
        clear hik hB hkn
        try rw [List.append_nil] at he
        have es := stys_snoc less q
        have es2 := stys_cons q back
        have ho := stys_one back
        have hw : IntKind.i64.wrap k = k := wrap_i64 (by omega) (by omega)
        have el := stys_len back
        have el2 := stys_len less
        unfold atS
        repeat' (first
    | (apply Awp.sreg; (case hn => (simp only [List.length_cons, List.length_nil, Nat.reduceAdd] <;> rfl)))
    | (refine st_nil ?_)
    | (apply st_a; (case hc => rfl); (case he => (simp only [go_sem, *] <;> rfl)); (case hu => (simp only [updL_nil, updL_cons] <;> rfl)); (case hp => first | trivial | assumption | omega | (simp; done) | (simp; omega) | (simp [*]; done) | ((repeat' (refine And.intro ?_ ?_)) <;> first | trivial | assumption | omega | (simp; done) | (simp; omega) | (simp [*]; done))))
    | (apply st_m; (case hc => rfl); (case hg => (simp only [go_sem, *] <;> rfl)); (case he => (intro hQz; (try simp only [wantB_t, wantB_f, Bool.and_eq_true, Bool.not_eq_true', Bool.not_true, Bool.not_false, and_true, true_and] at hQz); simp only [go_sem, *] <;> rfl)); (case hp => (intro hQz; (try simp only [wantB_t, wantB_f, Bool.and_eq_true, Bool.not_eq_true', Bool.or_eq_false_iff, decide_eq_true_eq, decide_eq_false_iff_not, beq_iff_eq, beq_eq_false_iff_ne, bne_iff_ne, bne_eq_false_iff_eq, Int.not_lt, Int.not_le, Int.ofNat_lt, Int.ofNat_le] at hQz); first | trivial | assumption | omega | (simp; done) | (simp; omega) | (simp [*]; done) | ((repeat' (refine And.intro ?_ ?_)) <;> first | trivial | assumption | omega | (simp; done) | (simp; omega) | (simp [*]; done)))))
    | (apply Awp.reg; (case hn => (simp only [List.length_cons, List.length_nil, Nat.reduceAdd] <;> rfl)))
    | (refine Awp.skip ?_; try simp only [go_sem, *])
    | refine Awp.block ?_
    | (apply Awp.cond; (case hc => (simp only [go_sem, *] <;> rfl)); all_goals (intro hg; (try simp only [Bool.not_true, Bool.not_false, reduceCtorEq] at hg)))
    | refine Awp.seq ?_)
        refine ⟨i + 1, by omega, by omega, ?_⟩
        rw [hr, he, hf]
        (apply Ghost.mk [(2, 230)] []; (case hdead => rfl); (case hinj => rfl); (case hV => (simp only [go_sem, *]) <;> (repeat' (first | refine And.intro ?_ ?_ | exact View.int (by first | rfl | omega | (simp; done) | (rw [wrap_i64] <;> (try simp only [Int.natCast_add]) <;> omega) | (simp [*]; done)) | exact .bp rfl (by decide) | exact .own rfl (by decide)))); (case hB => (simp only [go_sem, *]) <;> (repeat' (first | refine And.intro ?_ ?_ | exact ⟨_, rfl, BView.boxF rfl⟩ | exact ⟨_, rfl, .rowE (by first | rfl | omega | (simp; done) | (rw [wrap_i64] <;> (try simp only [Int.natCast_add]) <;> omega) | (simp [*]; done))⟩))))
      · have hB' := hB
        unfold holdB at hB'
        have hkk : ((i : Int) != k) = true := by rw [hkn]; simp [hik]
        rw [if_neg hik] at he
        rw [if_neg (by rw [hB]; simp)] at hf
        clear hik hB hkn
        try rw [List.append_nil] at he
        have es := stys_snoc less q
        have es2 := stys_cons q back
        have ho := stys_one back
        have hw : IntKind.i64.wrap k = k := wrap_i64 (by omega) (by omega)
        have el := stys_len back
        have el2 := stys_len less
        unfold atS
        repeat' (first
    | (apply Awp.sreg; (case hn => (simp only [List.length_cons, List.length_nil, Nat.reduceAdd] <;> rfl)))
    | (refine st_nil ?_)
    | (apply st_a; (case hc => rfl); (case he => (simp only [go_sem, *] <;> rfl)); (case hu => (simp only [updL_nil, updL_cons] <;> rfl)); (case hp => first | trivial | assumption | omega | (simp; done) | (simp; omega) | (simp [*]; done) | ((repeat' (refine And.intro ?_ ?_)) <;> first | trivial | assumption | omega | (simp; done) | (simp; omega) | (simp [*]; done))))
    | (apply st_m; (case hc => rfl); (case hg => (simp only [go_sem, *] <;> rfl)); (case he => (intro hQz; (try simp only [wantB_t, wantB_f, Bool.and_eq_true, Bool.not_eq_true', Bool.not_true, Bool.not_false, and_true, true_and] at hQz); simp only [go_sem, *] <;> rfl)); (case hp => (intro hQz; (try simp only [wantB_t, wantB_f, Bool.and_eq_true, Bool.not_eq_true', Bool.or_eq_false_iff, decide_eq_true_eq, decide_eq_false_iff_not, beq_iff_eq, beq_eq_false_iff_ne, bne_iff_ne, bne_eq_false_iff_eq, Int.not_lt, Int.not_le, Int.ofNat_lt, Int.ofNat_le] at hQz); first | trivial | assumption | omega | (simp; done) | (simp; omega) | (simp [*]; done) | ((repeat' (refine And.intro ?_ ?_)) <;> first | trivial | assumption | omega | (simp; done) | (simp; omega) | (simp [*]; done)))))
    | (apply Awp.reg; (case hn => (simp only [List.length_cons, List.length_nil, Nat.reduceAdd] <;> rfl)))
    | (refine Awp.skip ?_; try simp only [go_sem, *])
    | refine Awp.block ?_
    | (apply Awp.cond; (case hc => (simp only [go_sem, *] <;> rfl)); all_goals (intro hg; (try simp only [Bool.not_true, Bool.not_false, reduceCtorEq] at hg)))
    | refine Awp.seq ?_)
        refine ⟨i + 1, by omega, by omega, ?_⟩
        rw [hr, he, hf]
        (apply Ghost.mk [(2, 230), (3, 239)] []; (case hdead => rfl); (case hinj => rfl); (case hV => (simp only [go_sem, *]) <;> (repeat' (first | refine And.intro ?_ ?_ | exact View.int (by first | rfl | omega | (simp; done) | (rw [wrap_i64] <;> (try simp only [Int.natCast_add]) <;> omega) | (simp [*]; done)) | exact .bp rfl (by decide) | exact .own rfl (by decide)))); (case hB => (simp only [go_sem, *]) <;> (repeat' (first | refine And.intro ?_ ?_ | exact ⟨_, rfl, BView.boxF rfl⟩ | exact ⟨_, rfl, .rowE (by first | rfl | omega | (simp; done) | (rw [wrap_i64] <;> (try simp only [Int.natCast_add]) <;> omega) | (simp [*]; done))⟩))))
    · have hlt' : ¬ (i : Int) < p.stays.length := by omega
      have e1 : p.stays.take i = p.stays := List.take_of_length_le (by omega)
      have h1 := hold_once hC x
      have h2 := check_rev hC
      have h3 := check_sub hC (List.eraseIdx_sublist p.stays k.toNat)
      have h4 : (p.stays.eraseIdx k.toNat).length ≤ p.stays.length := (List.eraseIdx_sublist p.stays k.toNat).length_le
      have h5 : p.stays.reverse.length = p.stays.length := by simp
      have c1 := check_ok p.bays p.stays.reverse (by omega) (by omega)
      have c2 := check_ok p.bays (p.stays.eraseIdx k.toNat) (by omega) (by omega)
      rw [h2] at c1
      rw [h3] at c2
      rw [e1]
      generalize (p.stays.filter (holdB x)).length = n at *
      clear h2 h3
      generalize p.stays.reverse = back at *
      generalize p.stays.eraseIdx k.toNat = less at *
      have hn : decide ((n : Int) ≤ 1) = true := by simp; omega
      unfold atS
      repeat' (first
    | (apply Awp.sreg; (case hn => (simp only [List.length_cons, List.length_nil, Nat.reduceAdd] <;> rfl)))
    | (refine st_nil ?_)
    | (apply st_a; (case hc => rfl); (case he => (simp only [go_sem, *] <;> rfl)); (case hu => (simp only [updL_nil, updL_cons] <;> rfl)); (case hp => first | trivial | assumption | omega | (simp; done) | (simp; omega) | (simp [*]; done) | ((repeat' (refine And.intro ?_ ?_)) <;> first | trivial | assumption | omega | (simp; done) | (simp; omega) | (simp [*]; done))))
    | (apply st_m; (case hc => rfl); (case hg => (simp only [go_sem, *] <;> rfl)); (case he => (intro hQz; (try simp only [wantB_t, wantB_f, Bool.and_eq_true, Bool.not_eq_true', Bool.not_true, Bool.not_false, and_true, true_and] at hQz); simp only [go_sem, *] <;> rfl)); (case hp => (intro hQz; (try simp only [wantB_t, wantB_f, Bool.and_eq_true, Bool.not_eq_true', Bool.or_eq_false_iff, decide_eq_true_eq, decide_eq_false_iff_not, beq_iff_eq, beq_eq_false_iff_ne, bne_iff_ne, bne_eq_false_iff_eq, Int.not_lt, Int.not_le, Int.ofNat_lt, Int.ofNat_le] at hQz); first | trivial | assumption | omega | (simp; done) | (simp; omega) | (simp [*]; done) | ((repeat' (refine And.intro ?_ ?_)) <;> first | trivial | assumption | omega | (simp; done) | (simp; omega) | (simp [*]; done)))))
    | (apply st_cd; (case hc => (simp only [go_sem, *] <;> rfl)); (case hl => (simp only [go_sem, *] <;> rfl)); (case hn => (simp only [go_sem, *] <;> rfl)); (case hp => first | exact c1 | (have hXz := c1; simp only [go_sem, *] at hXz; exact hXz)); (case hd => first | exact .v _ | exact .any | exact .nils | (repeat' (first | exact Dry.v _ | exact Dry.any | exact Dry.nils | exact Dry.slE | refine Dry.agg ?_ | refine Dry.tup ?_ | (refine List.forall_mem_cons.2 (And.intro ?_ ?_)) | (intro cQ hQ; cases hQ; done)))); (case hm => first | decide | (simp; done)))
    | (apply st_cd; (case hc => (simp only [go_sem, *] <;> rfl)); (case hl => (simp only [go_sem, *] <;> rfl)); (case hn => (simp only [go_sem, *] <;> rfl)); (case hp => first | exact c2 | (have hXz := c2; simp only [go_sem, *] at hXz; exact hXz)); (case hd => first | exact .v _ | exact .any | exact .nils | (repeat' (first | exact Dry.v _ | exact Dry.any | exact Dry.nils | exact Dry.slE | refine Dry.agg ?_ | refine Dry.tup ?_ | (refine List.forall_mem_cons.2 (And.intro ?_ ?_)) | (intro cQ hQ; cases hQ; done)))); (case hm => first | decide | (simp; done)))
    | (apply st_mc; (case hop => rfl); (case hg => (simp only [go_sem, *] <;> rfl)); (case hc => (intro hQz; (try simp only [wantB_t, wantB_f, Bool.and_eq_true, Bool.not_eq_true', Bool.not_true, Bool.not_false, and_true, true_and] at hQz); simp only [go_sem, *] <;> rfl)); (case hl => (intro hQz; (try simp only [wantB_t, wantB_f, Bool.and_eq_true, Bool.not_eq_true', Bool.not_true, Bool.not_false, and_true, true_and] at hQz); simp only [go_sem, *] <;> rfl)); (case hn => (intro hQz; (try simp only [wantB_t, wantB_f, Bool.and_eq_true, Bool.not_eq_true', Bool.not_true, Bool.not_false, and_true, true_and] at hQz); simp only [go_sem, *] <;> rfl)); (case hp => intro hQz; first | exact awake_ok | (have hXz := awake_ok; simp only [go_sem, *] at hXz; exact hXz)))
    | (apply st_g; (case hv => (simp only [go_sem, *] <;> rfl)); all_goals (intro hg; (try simp only [Bool.not_true, Bool.not_false, reduceCtorEq] at hg)))
    | (refine Awp.ret ?_; try simp only [go_sem, *])
    | (refine Awp.exit ?_; try simp only [go_sem, *])
    | (apply Awp.cond; (case hc => (simp only [go_sem, *] <;> rfl)); all_goals (intro hg; (try simp only [Bool.not_true, Bool.not_false, reduceCtorEq] at hg)))
    | refine Awp.seq ?_)
      all_goals repeat' (first | exact Lower.bool (by first | rfl | (simp only [true_and, Bool.true_and, Bool.false_and, Bool.and_true, Bool.and_false, Bool.true_or, Bool.false_or, reduceIte, Bool.false_eq_true, *]; done) | (simp only [true_and, reduceIte, Bool.false_eq_true, *] <;> rfl) | (simp [true_and]; done) | (simp_all [true_and]; done) | omega))
theorem u8_in {k : Int} (hk : (Lit.int .u8 k).wf = true) : 0 ≤ k ∧ k < 256 := by
  have h := (Lit.wf_int_iff .u8 k).1 hk
  have e1 : IntKind.u8.min = 0 := by decide +kernel
  have e2 : IntKind.u8.max = 255 := by decide +kernel
  omega
theorem apart_ok2 (p : Pl) (x : Sty) (k : Int) (hk : (Lit.int .u8 k).wf = true) : Pure Tryd.prog 7 [p.av, x.av, .v (.int .u8 k)] (.v (.bool true)) := apart_ok p x k (u8_in hk).1 (u8_in hk).2
end Go.Proofs
end
