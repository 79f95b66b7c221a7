import Derived.Test.YtadpljebgkfeoaaGreatDoorPZE
import Derived.Test.YtadpljebgkfeoaaGreatDoorCards
import Derived.Test.YtadpljebgkfeoaaGreatDoorTie
import Derived.WalkKit
import Derived.ProofKit
import Derived.OpenShut
import Derived.Deep.DeepHandedRow
import Derived.Lib.LaidTab
section
set_option linter.unusedVariables false
set_option linter.unusedSimpArgs false
namespace Go.Proofs
open Go Go.Ab
set_option maxHeartbeats 8000000
set_option maxRecDepth 100000
set_option linter.unusedSimpArgs false
set_option linter.unusedVariables false
attribute [local irreducible] Awp aops aopsL Go.Ab.Pure PureOwn
def endD (d : By) (fr : Int) (q : Sty) : Bool := (q.bay.toList == d.nm.toList) && decide (fr < q.b)
def endsD (l : List Sty) (d : By) (fr : Int) : List Int := fr :: (l.filter (endD d fr)).map (·.b)
def endsC (l : List Sty) (d : By) (fr : Int) : List Int := Lib.compact (sortI (endsD l d fr))
theorem endsD_len (l : List Sty) (d : By) (fr : Int) : (endsD l d fr).length ≤ l.length + 1 := by
  have := List.length_filter_le (endD d fr) l
  simp [endsD]; omega
theorem endsC_len (l : List Sty) (d : By) (fr : Int) : (endsC l d fr).length ≤ l.length + 1 := by
  unfold endsC
  refine Nat.le_trans (compact_len _) ?_
  rw [sortI_len]
  exact endsD_len l d fr
theorem endsD_step (l : List Sty) (d : By) (fr : Int) (i : Nat) (h : i < l.length) : endsD (l.take (i + 1)) d fr = endsD (l.take i) d fr ++ (if endD d fr (l.getD i zeroSty) = true then [(l.getD i zeroSty).b] else []) := by
  rw [take_snoc l zeroSty i h]
  unfold endsD
  rw [List.filter_append, List.map_append, List.cons_append]
  congr 2
  by_cases hp : endD d fr (l.getD i zeroSty) = true
  · rw [if_pos hp, List.filter_cons_of_pos (by exact hp)]; rfl
  · rw [if_neg hp, List.filter_cons_of_neg (by exact hp)]; rfl
theorem endsC_step (l : List Sty) (d : By) (fr : Int) (i : Nat) (h : i < l.length) (hp : endD d fr (l.getD i zeroSty) = true) : withZ (endsC (l.take i) d fr) (l.getD i zeroSty).b = endsC (l.take (i + 1)) d fr := by
  refine (with_step (endsD (l.take i) d fr) _).trans ?_
  show _ = Lib.compact (sortZ _)
  rw [endsD_step l d fr i h, if_pos hp]
theorem endsC_same (l : List Sty) (d : By) (fr : Int) (i : Nat) (h : i < l.length) (hp : endD d fr (l.getD i zeroSty) = false) : endsC (l.take (i + 1)) d fr = endsC (l.take i) d fr := by
  unfold endsC
  rw [endsD_step l d fr i h, if_neg (by rw [hp]; simp), List.append_nil]
theorem startsW_step (l : List Sty) (fr : Int) (i : Nat) (h : i < l.length) (hp : decide (fr < (l.getD i zeroSty).b) = true) : withZ (startsZ (l.take i) fr) (l.getD i zeroSty).b = startsZ (l.take (i + 1)) fr := by
  refine (with_step (endsL (l.take i) fr) _).trans ?_
  show _ = Lib.compact (sortZ _)
  rw [endsL_step l fr i h, if_pos hp]
theorem startsZ_same (l : List Sty) (fr : Int) (i : Nat) (h : i < l.length) (hp : decide (fr < (l.getD i zeroSty).b) = false) : startsZ (l.take (i + 1)) fr = startsZ (l.take i) fr := by
  unfold startsZ
  rw [endsL_step l fr i h, if_neg (by rw [hp]; simp), List.append_nil]
theorem fitB_in (x : Sty) (h : Int) : (decide (x.len < 1) || decide (524288 < x.len) || decide (x.wid < 1) || decide (524288 < x.wid) || decide (h < 1) || decide (1048576 < h) || decide (x.a < 0) || decide (1048576 < x.a)) = fitB x h := by
  unfold fitB
  rw [Bool.eq_iff_iff]
  simp only [Bool.or_eq_true, Bool.not_eq_true', Bool.and_eq_false_iff, decide_eq_false_iff_not, decide_eq_true_eq]
  omega
def tryA (bs : List By) (l : List Sty) (x : Sty) (t : Int) (d : By) (e : Int) : Option Sty := atD bs l (askd x d.nm t e)
def tryE (bs : List By) (l : List Sty) (x : Sty) (h t : Int) (d : By) : Option Sty := (endsC l d (IntKind.i64.wrap (t + h))).findSome? (tryA bs l x t d)
def fitR (bs : List By) (l : List Sty) (x : Sty) (h : Int) : Option Sty := (startsZ l x.a).findSome? fun t => bs.findSome? (tryE bs l x h t)
def fr0 (bs : List By) (l : List Sty) (x : Sty) (h : Int) (S : List Int) (i : Nat) : AState :=
  mkS [(0, .sl (bys bs)), (1, .sl (stys l)), (3, .v (.int .i64 h)), (6, .bp 0 0), (8, .bp 1 0), (11, .own 2), (12, .v (.int .i64 i))] [(0, .box x.cells), (1, .box boxZ), (2, .row (ints S) 1 3)]
def fr1 (bs : List By) (l : List Sty) (x : Sty) (h : Int) (S : List Int) (i : Nat) : AState :=
  mkS [(0, .sl (bys bs)), (1, .sl (stys l)), (3, .v (.int .i64 h)), (6, .bp 0 0), (8, .bp 1 0), (11, .own 2), (13, .v (.int .i64 i))] [(0, .box x.cells), (1, .box boxZ), (2, .row (ints S) 1 3)]
def fr2 (bs : List By) (l : List Sty) (x : Sty) (h : Int) (S : List Int) (i : Nat) (k : Nat) : AState :=
  mkS [(0, .sl (bys bs)), (1, .sl (stys l)), (3, .v (.int .i64 h)), (6, .bp 0 0), (8, .bp 1 0), (11, .own 2), (13, .v (.int .i64 i)), (14, .v (.int .i64 k))] [(0, .box x.cells), (1, .box boxZ), (2, .row (ints S) 1 3)]
def fr3 (bs : List By) (l : List Sty) (x : Sty) (h : Int) (S : List Int) (i : Nat) (k : Nat) (E : List Int) (m : Nat) : AState :=
  mkS [(0, .sl (bys bs)), (1, .sl (stys l)), (3, .v (.int .i64 h)), (6, .bp 0 0), (8, .bp 1 0), (11, .own 2), (13, .v (.int .i64 i)), (14, .v (.int .i64 k)), (15, .own 3), (16, .v (.int .i64 m))] [(0, .box x.cells), (1, .box boxZ), (2, .row (ints S) 1 3), (3, .row (ints E) 1 3)]
def fr4 (bs : List By) (l : List Sty) (x : Sty) (h : Int) (S : List Int) (i : Nat) (k : Nat) (E : List Int) (m : Nat) : AState :=
  mkS [(0, .sl (bys bs)), (1, .sl (stys l)), (3, .v (.int .i64 h)), (6, .bp 0 0), (8, .bp 1 0), (11, .own 2), (13, .v (.int .i64 i)), (14, .v (.int .i64 k)), (15, .own 3), (17, .v (.int .i64 m))] [(0, .box x.cells), (1, .box boxZ), (2, .row (ints S) 1 3), (3, .row (ints E) 1 3)]
theorem rfit_ok (bs : List By) (l : List Sty) (x : Sty) (h : Int) (hb : bs.length < 90000) (hl : l.length < 80000) (hx : x.item.size < 1000000) (hs : ∀ i, i < l.length → (l.getD i zeroSty).item.size < 1000000) : Pure Tryz.prog 21 [.sl (bys bs), .sl (stys l), x.av, .v (.int .i64 h)] (.tup [(fitH bs l x h (fitR bs l x h)).1.av, .v (.int .i64 (fitH bs l x h (fitR bs l x h)).2)]) := by
  have c0 := rdcheck_ok bs l (by omega) (by omega) hs
  have c1 := risid_ok x.item hx
  have c2 := rfindK_ok l x.item (by omega)
  have hI : decide (0 ≤ idxF (fun q : Sty => q.item.toList == x.item.toList) l) = l.any (hullB x.item) := idxF_any _ l
  generalize idxF (fun q : Sty => q.item.toList == x.item.toList) l = I at *
  unfold fitH
  by_cases hC : dockE bs l = 0
  case neg =>
    have hC' : (dockE bs l != 0) = true := by simpa using hC
    rw [if_pos hC']
    generalize dockE bs l = e at *
    refine fn_pure Tryz.F21 (Nat.le_of_ble_eq_true rfl) ?_; unfold Tryz.ac21
    repeat' (first
    | (apply Awp.sreg; (case hn => (simp only [List.length_cons, List.length_nil, Nat.reduceAdd] <;> rfl)))
    | (refine st_nil ?_)
    | (apply st_a; (case hc => rfl); (case he => (simp only [go_sem, *] <;> rfl)); (case hu => (simp only [updL_nil, updL_cons] <;> rfl)); (case hp => first | trivial))
    | (apply st_c; (case hc => (simp only [go_sem, *] <;> rfl)); (case hl => (simp only [go_sem, *] <;> rfl)); (case hn => (simp only [go_sem, *] <;> rfl)); (case hp => first | exact c0 | (have hXz := c0; simp only [go_sem, *] at hXz; exact hXz)))
    | (refine Awp.ret ?_; try simp only [go_sem, *])
    | (apply Awp.cond; (case hc => (simp only [go_sem, *] <;> rfl)); all_goals (intro hg; (try simp only [Bool.not_true, Bool.not_false, reduceCtorEq] at hg)))
    | refine Awp.seq ?_)
    all_goals repeat' (first | exact Lower.int (by first | rfl | (simp only [zeroSty, Bool.true_and, Bool.false_and, Bool.and_true, Bool.and_false, Bool.true_or, Bool.false_or, reduceIte, Bool.false_eq_true, *]; done) | (simp only [zeroSty, reduceIte, Bool.false_eq_true, *] <;> rfl) | (simp [zeroSty]; done) | (simp_all [zeroSty]; done) | omega) | exact Lower.str (by first | rfl | (simp only [zeroSty, Bool.true_and, Bool.false_and, Bool.and_true, Bool.and_false, Bool.true_or, Bool.false_or, reduceIte, Bool.false_eq_true, *]; done) | (simp only [zeroSty, reduceIte, Bool.false_eq_true, *] <;> rfl) | (simp [zeroSty]; done) | (simp_all [zeroSty]; done) | omega) | refine Lower.aggF ?_ | refine Lower.tupF ?_ | refine All2.cons ?_ ?_ | exact All2.nil)
  have hlen : l.length ≤ 128 := ((checkE_iff bs l).1 ((dockE_iff bs l).1 hC).1).2.1
  rw [if_neg (by rw [hC]; simp)]
  rw [hC] at c0
  cases h1 : idB x.item
  · rw [if_pos (by simp)]
    rw [h1] at c1
    refine fn_pure Tryz.F21 (Nat.le_of_ble_eq_true rfl) ?_; unfold Tryz.ac21
    repeat' (first
    | (apply Awp.sreg; (case hn => (simp only [List.length_cons, List.length_nil, Nat.reduceAdd] <;> rfl)))
    | (refine st_nil ?_)
    | (apply st_a; (case hc => rfl); (case he => (simp only [go_sem, *] <;> rfl)); (case hu => (simp only [updL_nil, updL_cons] <;> rfl)); (case hp => first | trivial))
    | (apply st_c; (case hc => (simp only [go_sem, *] <;> rfl)); (case hl => (simp only [go_sem, *] <;> rfl)); (case hn => (simp only [go_sem, *] <;> rfl)); (case hp => first | exact c0 | (have hXz := c0; simp only [go_sem, *] at hXz; exact hXz)))
    | (apply st_c; (case hc => (simp only [go_sem, *] <;> rfl)); (case hl => (simp only [go_sem, *] <;> rfl)); (case hn => (simp only [go_sem, *] <;> rfl)); (case hp => first | exact c1 | (have hXz := c1; simp only [go_sem, *] at hXz; exact hXz)))
    | (refine Awp.ret ?_; try simp only [go_sem, *])
    | (refine Awp.skip ?_; try simp only [go_sem, *])
    | (apply Awp.cond; (case hc => (simp only [go_sem, *] <;> rfl)); all_goals (intro hg; (try simp only [Bool.not_true, Bool.not_false, reduceCtorEq] at hg)))
    | refine Awp.seq ?_)
    all_goals repeat' (first | exact Lower.int (by first | rfl | (simp only [zeroSty, Bool.true_and, Bool.false_and, Bool.and_true, Bool.and_false, Bool.true_or, Bool.false_or, reduceIte, Bool.false_eq_true, *]; done) | (simp only [zeroSty, reduceIte, Bool.false_eq_true, *] <;> rfl) | (simp [zeroSty]; done) | (simp_all [zeroSty]; done) | omega) | exact Lower.str (by first | rfl | (simp only [zeroSty, Bool.true_and, Bool.false_and, Bool.and_true, Bool.and_false, Bool.true_or, Bool.false_or, reduceIte, Bool.false_eq_true, *]; done) | (simp only [zeroSty, reduceIte, Bool.false_eq_true, *] <;> rfl) | (simp [zeroSty]; done) | (simp_all [zeroSty]; done) | omega) | refine Lower.aggF ?_ | refine Lower.tupF ?_ | refine All2.cons ?_ ?_ | exact All2.nil)
  rw [if_neg (by simp)]
  rw [h1] at c1
  cases h3 : l.any (hullB x.item)
  case true =>
    rw [if_pos rfl]
    rw [h3] at hI
    refine fn_pure Tryz.F21 (Nat.le_of_ble_eq_true rfl) ?_; unfold Tryz.ac21
    repeat' (first
    | (apply Awp.sreg; (case hn => (simp only [List.length_cons, List.length_nil, Nat.reduceAdd] <;> rfl)))
    | (refine st_nil ?_)
    | (apply st_a; (case hc => rfl); (case he => (simp only [go_sem, *] <;> rfl)); (case hu => (simp only [updL_nil, updL_cons] <;> rfl)); (case hp => first | trivial))
    | (apply st_c; (case hc => (simp only [go_sem, *] <;> rfl)); (case hl => (simp only [go_sem, *] <;> rfl)); (case hn => (simp only [go_sem, *] <;> rfl)); (case hp => first | exact c0 | (have hXz := c0; simp only [go_sem, *] at hXz; exact hXz)))
    | (apply st_c; (case hc => (simp only [go_sem, *] <;> rfl)); (case hl => (simp only [go_sem, *] <;> rfl)); (case hn => (simp only [go_sem, *] <;> rfl)); (case hp => first | exact c1 | (have hXz := c1; simp only [go_sem, *] at hXz; exact hXz)))
    | (apply st_c; (case hc => (simp only [go_sem, *] <;> rfl)); (case hl => (simp only [go_sem, *] <;> rfl)); (case hn => (simp only [go_sem, *] <;> rfl)); (case hp => first | exact c2 | (have hXz := c2; simp only [go_sem, *] at hXz; exact hXz)))
    | (refine Awp.ret ?_; try simp only [go_sem, *])
    | (refine Awp.skip ?_; try simp only [go_sem, *])
    | (apply Awp.cond; (case hc => (simp only [go_sem, *] <;> rfl)); all_goals (intro hg; (try simp only [Bool.not_true, Bool.not_false, reduceCtorEq] at hg)))
    | refine Awp.seq ?_)
    all_goals repeat' (first | exact Lower.int (by first | rfl | (simp only [zeroSty, Bool.true_and, Bool.false_and, Bool.and_true, Bool.and_false, Bool.true_or, Bool.false_or, reduceIte, Bool.false_eq_true, *]; done) | (simp only [zeroSty, reduceIte, Bool.false_eq_true, *] <;> rfl) | (simp [zeroSty]; done) | (simp_all [zeroSty]; done) | omega) | exact Lower.str (by first | rfl | (simp only [zeroSty, Bool.true_and, Bool.false_and, Bool.and_true, Bool.and_false, Bool.true_or, Bool.false_or, reduceIte, Bool.false_eq_true, *]; done) | (simp only [zeroSty, reduceIte, Bool.false_eq_true, *] <;> rfl) | (simp [zeroSty]; done) | (simp_all [zeroSty]; done) | omega) | refine Lower.aggF ?_ | refine Lower.tupF ?_ | refine All2.cons ?_ ?_ | exact All2.nil)
  rw [if_neg (by simp)]
  rw [h3] at hI
  have hR := fitB_in x h
  cases h2 : fitB x h
  case true =>
    rw [if_pos rfl]
    rw [h2] at hR
    clear h2
    refine fn_pure Tryz.F21 (Nat.le_of_ble_eq_true rfl) ?_; unfold Tryz.ac21
    repeat' (first
    | (apply Awp.sreg; (case hn => (simp only [List.length_cons, List.length_nil, Nat.reduceAdd] <;> rfl)))
    | (refine st_nil ?_)
    | (apply st_a; (case hc => rfl); (case he => (simp only [go_sem, *] <;> rfl)); (case hu => (simp only [updL_nil, updL_cons] <;> rfl)); (case hp => first | trivial))
    | (apply st_m; (case hc => rfl); (case hg => (simp only [go_sem, *] <;> rfl)); (case he => (intro hQz; (try simp only [wantB_t, wantB_f, Bool.and_eq_true, Bool.not_eq_true', Bool.not_true, Bool.not_false, and_true, true_and] at hQz); simp only [go_sem, *] <;> rfl)); (case hp => (intro hQz; (try simp only [wantB_t, wantB_f, Bool.and_eq_true, Bool.not_eq_true', Bool.or_eq_false_iff, decide_eq_true_eq, decide_eq_false_iff_not, beq_iff_eq, beq_eq_false_iff_ne, bne_iff_ne, bne_eq_false_iff_eq, Int.not_lt, Int.not_le, Int.ofNat_lt, Int.ofNat_le] at hQz); first | trivial)))
    | (apply st_c; (case hc => (simp only [go_sem, *] <;> rfl)); (case hl => (simp only [go_sem, *] <;> rfl)); (case hn => (simp only [go_sem, *] <;> rfl)); (case hp => first | exact c0 | (have hXz := c0; simp only [go_sem, *] at hXz; exact hXz)))
    | (apply st_c; (case hc => (simp only [go_sem, *] <;> rfl)); (case hl => (simp only [go_sem, *] <;> rfl)); (case hn => (simp only [go_sem, *] <;> rfl)); (case hp => first | exact c1 | (have hXz := c1; simp only [go_sem, *] at hXz; exact hXz)))
    | (apply st_c; (case hc => (simp only [go_sem, *] <;> rfl)); (case hl => (simp only [go_sem, *] <;> rfl)); (case hn => (simp only [go_sem, *] <;> rfl)); (case hp => first | exact c2 | (have hXz := c2; simp only [go_sem, *] at hXz; exact hXz)))
    | (refine Awp.ret ?_; try simp only [go_sem, *])
    | (refine Awp.skip ?_; try simp only [go_sem, *])
    | (apply Awp.cond; (case hc => (simp only [go_sem, *] <;> rfl)); all_goals (intro hg; (try simp only [Bool.not_true, Bool.not_false, reduceCtorEq] at hg)))
    | refine Awp.seq ?_)
    all_goals repeat' (first | exact Lower.int (by first | rfl | (simp only [zeroSty, Bool.true_and, Bool.false_and, Bool.and_true, Bool.and_false, Bool.true_or, Bool.false_or, reduceIte, Bool.false_eq_true, *]; done) | (simp only [zeroSty, reduceIte, Bool.false_eq_true, *] <;> rfl) | (simp [zeroSty]; done) | (simp_all [zeroSty]; done) | omega) | exact Lower.str (by first | rfl | (simp only [zeroSty, Bool.true_and, Bool.false_and, Bool.and_true, Bool.and_false, Bool.true_or, Bool.false_or, reduceIte, Bool.false_eq_true, *]; done) | (simp only [zeroSty, reduceIte, Bool.false_eq_true, *] <;> rfl) | (simp [zeroSty]; done) | (simp_all [zeroSty]; done) | omega) | refine Lower.aggF ?_ | refine Lower.tupF ?_ | refine All2.cons ?_ ?_ | exact All2.nil)
  rw [if_neg (by simp)]
  rw [h2] at hR
  clear h2
  by_cases h4 : (128 : Int) ≤ l.length
  · rw [if_pos (by simpa using h4)]
    have h5 : ((l.length : Int) == 128) = true := by rw [beq_iff_eq]; omega
    refine fn_pure Tryz.F21 (Nat.le_of_ble_eq_true rfl) ?_; unfold Tryz.ac21
    repeat' (first
    | (apply Awp.sreg; (case hn => (simp only [List.length_cons, List.length_nil, Nat.reduceAdd] <;> rfl)))
    | (refine st_nil ?_)
    | (apply st_a; (case hc => rfl); (case he => (simp only [go_sem, *] <;> rfl)); (case hu => (simp only [updL_nil, updL_cons] <;> rfl)); (case hp => first | trivial))
    | (apply st_m; (case hc => rfl); (case hg => (simp only [go_sem, *] <;> rfl)); (case he => (intro hQz; (try simp only [wantB_t, wantB_f, Bool.and_eq_true, Bool.not_eq_true', Bool.not_true, Bool.not_false, and_true, true_and] at hQz); simp only [go_sem, *] <;> rfl)); (case hp => (intro hQz; (try simp only [wantB_t, wantB_f, Bool.and_eq_true, Bool.not_eq_true', Bool.or_eq_false_iff, decide_eq_true_eq, decide_eq_false_iff_not, beq_iff_eq, beq_eq_false_iff_ne, bne_iff_ne, bne_eq_false_iff_eq, Int.not_lt, Int.not_le, Int.ofNat_lt, Int.ofNat_le] at hQz); first | trivial)))
    | (apply st_c; (case hc => (simp only [go_sem, *] <;> rfl)); (case hl => (simp only [go_sem, *] <;> rfl)); (case hn => (simp only [go_sem, *] <;> rfl)); (case hp => first | exact c0 | (have hXz := c0; simp only [go_sem, *] at hXz; exact hXz)))
    | (apply st_c; (case hc => (simp only [go_sem, *] <;> rfl)); (case hl => (simp only [go_sem, *] <;> rfl)); (case hn => (simp only [go_sem, *] <;> rfl)); (case hp => first | exact c1 | (have hXz := c1; simp only [go_sem, *] at hXz; exact hXz)))
    | (apply st_c; (case hc => (simp only [go_sem, *] <;> rfl)); (case hl => (simp only [go_sem, *] <;> rfl)); (case hn => (simp only [go_sem, *] <;> rfl)); (case hp => first | exact c2 | (have hXz := c2; simp only [go_sem, *] at hXz; exact hXz)))
    | (refine Awp.ret ?_; try simp only [go_sem, *])
    | (refine Awp.skip ?_; try simp only [go_sem, *])
    | (apply Awp.cond; (case hc => (simp only [go_sem, *] <;> rfl)); all_goals (intro hg; (try simp only [Bool.not_true, Bool.not_false, reduceCtorEq] at hg)))
    | refine Awp.seq ?_)
    all_goals repeat' (first | exact Lower.int (by first | rfl | (simp only [zeroSty, Bool.true_and, Bool.false_and, Bool.and_true, Bool.and_false, Bool.true_or, Bool.false_or, reduceIte, Bool.false_eq_true, *]; done) | (simp only [zeroSty, reduceIte, Bool.false_eq_true, *] <;> rfl) | (simp [zeroSty]; done) | (simp_all [zeroSty]; done) | omega) | exact Lower.str (by first | rfl | (simp only [zeroSty, Bool.true_and, Bool.false_and, Bool.and_true, Bool.and_false, Bool.true_or, Bool.false_or, reduceIte, Bool.false_eq_true, *]; done) | (simp only [zeroSty, reduceIte, Bool.false_eq_true, *] <;> rfl) | (simp [zeroSty]; done) | (simp_all [zeroSty]; done) | omega) | refine Lower.aggF ?_ | refine Lower.tupF ?_ | refine All2.cons ?_ ?_ | exact All2.nil)
  rw [if_neg (by simpa using h4)]
  have h5 : ((l.length : Int) == 128) = false := by rw [beq_eq_false_iff_ne]; omega
  unfold fitR
  refine fn_pure Tryz.F21 (Nat.le_of_ble_eq_true rfl) ?_; unfold Tryz.ac21
  repeat' (first
    | (apply Awp.sreg; (case hn => (simp only [List.length_cons, List.length_nil, Nat.reduceAdd] <;> rfl)))
    | (refine st_nil ?_)
    | (apply st_a; (case hc => rfl); (case he => (simp only [go_sem, *] <;> rfl)); (case hu => (simp only [updL_nil, updL_cons] <;> rfl)); (case hp => first | trivial | (simp; done)))
    | (apply st_m; (case hc => rfl); (case hg => (simp only [go_sem, *] <;> rfl)); (case he => (intro hQz; (try simp only [wantB_t, wantB_f, Bool.and_eq_true, Bool.not_eq_true', Bool.not_true, Bool.not_false, and_true, true_and] at hQz); simp only [go_sem, *] <;> rfl)); (case hp => (intro hQz; (try simp only [wantB_t, wantB_f, Bool.and_eq_true, Bool.not_eq_true', Bool.or_eq_false_iff, decide_eq_true_eq, decide_eq_false_iff_not, beq_iff_eq, beq_eq_false_iff_ne, bne_iff_ne, bne_eq_false_iff_eq, Int.not_lt, Int.not_le, Int.ofNat_lt, Int.ofNat_le] at hQz); first | trivial)))
    | (apply st_c; (case hc => (simp only [go_sem, *] <;> rfl)); (case hl => (simp only [go_sem, *] <;> rfl)); (case hn => (simp only [go_sem, *] <;> rfl)); (case hp => first | exact c0 | (have hXz := c0; simp only [go_sem, *] at hXz; exact hXz)))
    | (apply st_c; (case hc => (simp only [go_sem, *] <;> rfl)); (case hl => (simp only [go_sem, *] <;> rfl)); (case hn => (simp only [go_sem, *] <;> rfl)); (case hp => first | exact c1 | (have hXz := c1; simp only [go_sem, *] at hXz; exact hXz)))
    | (apply st_c; (case hc => (simp only [go_sem, *] <;> rfl)); (case hl => (simp only [go_sem, *] <;> rfl)); (case hn => (simp only [go_sem, *] <;> rfl)); (case hp => first | exact c2 | (have hXz := c2; simp only [go_sem, *] at hXz; exact hXz)))
    | (refine Awp.skip ?_; try simp only [go_sem, *])
    | refine Awp.block ?_
    | (apply Awp.cond; (case hc => (simp only [go_sem, *] <;> rfl)); all_goals (intro hg; (try simp only [Bool.not_true, Bool.not_false, reduceCtorEq] at hg)))
    | refine Awp.seq ?_)
  clear c0 c1 c2 h1 h3 hR hI h5
  refine Awp.loop (fun i : Nat => i ≤ l.length) 100 (fun i => fr0 bs l x h (startsZ (l.take i) x.a) i) (fun i => l.length - i) 0 (by omega) ?_ ?_
  · have e1 : startsZ (l.take 0) x.a = [x.a] := asc_ext (compact_sorted (sortZ [x.a]) (sortZ_asc _)).1 (by simp) fun y => ((compact_sorted (sortZ [x.a]) (sortZ_asc _)).2 y).trans (mem_sortZ _ _)
    have e2 := ints_one1 x.a
    rw [e1]
    unfold fr0 boxZ
    (apply Ghost.mk [(2, 62)] []; (case hdead => rfl); (case hinj => rfl); (case hV => (simp only [go_sem, *]) <;> (repeat' (first | refine And.intro ?_ ?_ | exact View.int (by first | rfl | omega | (simp; done) | (rw [wrap_i64] <;> (try simp only [Int.natCast_add]) <;> omega) | (simp [*]; done)) | exact .bp rfl (by decide) | exact .own rfl (by decide)))); (case hB => (simp only [go_sem, *]) <;> (repeat' (first | refine And.intro ?_ ?_ | exact ⟨_, rfl, BView.boxF rfl⟩ | exact ⟨_, rfl, .rowE (by first | rfl | omega | (simp; done) | (rw [wrap_i64] <;> (try simp only [Int.natCast_add]) <;> omega) | (simp [*]; done))⟩))))
  · intro i hi
    by_cases hlt : i < l.length
    · have hlt' : (i : Int) < l.length := by omega
      have hat := stys_at l i hlt
      have hz : ((l.getD i zeroSty).cells).length = 8 := rfl
      have hln := startsZ_len (l.take i) x.a
      have htl : (l.take i).length = i := List.length_take_of_le hi
      cases hB : decide (x.a < (l.getD i zeroSty).b)
      · have e3 := startsZ_same l x.a i hlt hB
        unfold fr0 boxZ
        repeat' (first
    | (apply Awp.sreg; (case hn => (simp only [List.length_cons, List.length_nil, Nat.reduceAdd] <;> rfl)))
    | (apply Awp.sdraw; (case hn => (simp only [List.length_cons, List.length_nil, Nat.reduceAdd] <;> rfl)))
    | (refine st_nil ?_)
    | (apply st_a; (case hc => rfl); (case he => (simp only [go_sem, *] <;> rfl)); (case hu => (simp only [updL_nil, updL_cons] <;> rfl)); (case hp => first | trivial))
    | (apply Awp.reg; (case hn => (simp only [List.length_cons, List.length_nil, Nat.reduceAdd] <;> rfl)))
    | (refine Awp.skip ?_; try simp only [go_sem, *])
    | refine Awp.block ?_
    | (apply Awp.cond; (case hc => (simp only [go_sem, *] <;> rfl)); all_goals (intro hg; (try simp only [Bool.not_true, Bool.not_false, reduceCtorEq] at hg)))
    | refine Awp.seq ?_
    | (apply sl_a; (case hc => rfl); (case he => (simp only [go_sem, *] <;> rfl)); (case hu => (simp only [updL_nil, updL_cons] <;> rfl)); (case hl => (simp only [List.map_cons, List.map_nil] <;> rfl)); (case hp => first | trivial | omega))
    | (refine sl_nil (And.intro (by first | exact drawOk_of (by decide +kernel) | (simp only [List.map_cons, List.map_nil]; exact drawOk_of (by decide +kernel)) | decide) ?_)))
        refine ⟨i + 1, by omega, by omega, ?_⟩
        rw [e3]
        (apply Ghost.mk [] []; (case hdead => rfl); (case hinj => rfl); (case hV => (simp only [go_sem, *]) <;> (repeat' (first | refine And.intro ?_ ?_ | exact View.int (by first | rfl | omega | (simp; done) | (rw [wrap_i64] <;> (try simp only [Int.natCast_add]) <;> omega) | (simp [*]; done)) | exact .bp rfl (by decide) | exact .own rfl (by decide)))); (case hB => (simp only [go_sem, *]) <;> (repeat' (first | refine And.intro ?_ ?_ | exact ⟨_, rfl, BView.boxF rfl⟩ | exact ⟨_, rfl, .rowE (by first | rfl | omega | (simp; done) | (rw [wrap_i64] <;> (try simp only [Int.natCast_add]) <;> omega) | (simp [*]; done))⟩))))
      · have p2 := with_ok (startsZ (l.take i) x.a) (l.getD i zeroSty).b (by omega)
        rw [startsW_step l x.a i hlt hB] at p2
        unfold fr0 boxZ
        repeat' (first
    | (apply Awp.sreg; (case hn => (simp only [List.length_cons, List.length_nil, Nat.reduceAdd] <;> rfl)))
    | (apply Awp.sdraw; (case hn => (simp only [List.length_cons, List.length_nil, Nat.reduceAdd] <;> rfl)))
    | (refine st_nil ?_)
    | (apply st_a; (case hc => rfl); (case he => (simp only [go_sem, *] <;> rfl)); (case hu => (simp only [updL_nil, updL_cons] <;> rfl)); (case hp => first | trivial | omega))
    | (apply st_cod; (case hc => (simp only [go_sem, *] <;> rfl)); (case hl => (simp only [go_sem, *] <;> rfl)); (case hn => (simp only [go_sem, *] <;> rfl)); (case hp => first | exact p2 | (have hXz := p2; simp only [go_sem, *] at hXz; exact hXz)); (case hd => first | exact sps_dry _ | exact ints_dry _ | (repeat' (first | exact Dry.v _ | exact Dry.any | exact Dry.nils | exact Dry.slE | refine Dry.agg ?_ | refine Dry.tup ?_ | (refine List.forall_mem_cons.2 (And.intro ?_ ?_)) | (intro cQ hQ; cases hQ; done)))); (case hm => first | decide | (simp; done)))
    | (apply Awp.reg; (case hn => (simp only [List.length_cons, List.length_nil, Nat.reduceAdd] <;> rfl)))
    | (refine Awp.skip ?_; try simp only [go_sem, *])
    | refine Awp.block ?_
    | (apply Awp.cond; (case hc => (simp only [go_sem, *] <;> rfl)); all_goals (intro hg; (try simp only [Bool.not_true, Bool.not_false, reduceCtorEq] at hg)))
    | refine Awp.seq ?_
    | (apply sl_a; (case hc => rfl); (case he => (simp only [go_sem, *] <;> rfl)); (case hu => (simp only [updL_nil, updL_cons] <;> rfl)); (case hl => (simp only [List.map_cons, List.map_nil] <;> rfl)); (case hp => first | trivial | omega))
    | (refine sl_nil (And.intro (by first | exact drawOk_of (by decide +kernel) | (simp only [List.map_cons, List.map_nil]; exact drawOk_of (by decide +kernel)) | decide) ?_)))
        refine ⟨i + 1, by omega, by omega, ?_⟩
        (apply Ghost.mk [(2, 121)] []; (case hdead => rfl); (case hinj => rfl); (case hV => (simp only [go_sem, *]) <;> (repeat' (first | refine And.intro ?_ ?_ | exact View.int (by first | rfl | omega | (simp; done) | (rw [wrap_i64] <;> (try simp only [Int.natCast_add]) <;> omega) | (simp [*]; done)) | exact .bp rfl (by decide) | exact .own rfl (by decide)))); (case hB => (simp only [go_sem, *]) <;> (repeat' (first | refine And.intro ?_ ?_ | exact ⟨_, rfl, BView.boxF rfl⟩ | exact ⟨_, rfl, .rowE (by first | rfl | omega | (simp; done) | (rw [wrap_i64] <;> (try simp only [Int.natCast_add]) <;> omega) | (simp [*]; done))⟩))))
    · have hlt' : ¬ (i : Int) < l.length := by omega
      have e1 : l.take i = l := List.take_of_length_le (by omega)
      have hSl := startsZ_len l x.a
      rw [e1]
      unfold fr0 boxZ
      repeat' (first
    | (apply Awp.sreg; (case hn => (simp only [List.length_cons, List.length_nil, Nat.reduceAdd] <;> rfl)))
    | (refine st_nil ?_)
    | (apply st_a; (case hc => rfl); (case he => (simp only [go_sem, *] <;> rfl)); (case hu => (simp only [updL_nil, updL_cons] <;> rfl)); (case hp => first | trivial))
    | (refine Awp.exit ?_; try simp only [go_sem, *])
    | refine Awp.block ?_
    | (apply Awp.cond; (case hc => (simp only [go_sem, *] <;> rfl)); all_goals (intro hg; (try simp only [Bool.not_true, Bool.not_false, reduceCtorEq] at hg)))
    | refine Awp.seq ?_)
      obtain ⟨S, hS⟩ : ∃ S, startsZ l x.a = S := ⟨_, rfl⟩
      rw [hS] at hSl ⊢
      clear hS e1 hlt' hlt hi
      refine Awp.loop (fun j : Nat => j ≤ S.length ∧ ∀ i, i < j → bs.findSome? (tryE bs l x h (S.getD i 0)) = none) 200
        (fun j => fr1 bs l x h S j) (fun j => S.length - j) 0 ⟨Nat.zero_le _, fun j hj => by simp at hj⟩ ?_ ?_
      · unfold fr1 boxZ
        (apply Ghost.mk [] []; (case hdead => rfl); (case hinj => rfl); (case hV => (simp only [go_sem, *]) <;> (repeat' (first | refine And.intro ?_ ?_ | exact View.int (by first | rfl | omega | (simp; done) | (rw [wrap_i64] <;> (try simp only [Int.natCast_add]) <;> omega) | (simp [*]; done)) | exact .bp rfl (by decide) | exact .own rfl (by decide)))); (case hB => (simp only [go_sem, *]) <;> (repeat' (first | refine And.intro ?_ ?_ | exact ⟨_, rfl, BView.boxF rfl⟩ | exact ⟨_, rfl, .rowE (by first | rfl | omega | (simp; done) | (rw [wrap_i64] <;> (try simp only [Int.natCast_add]) <;> omega) | (simp [*]; done))⟩))))
      · intro j ⟨hj, hno⟩
        by_cases hlt : j < S.length
        · have hlt' : (j : Int) < S.length := by omega
          have hat := ints_at S j hlt
          obtain ⟨t, ht⟩ : ∃ t, S.getD j 0 = t := ⟨_, rfl⟩
          rw [ht] at hat
          unfold fr1 boxZ
          repeat' (first
    | (apply Awp.sreg; (case hn => (simp only [List.length_cons, List.length_nil, Nat.reduceAdd] <;> rfl)))
    | (refine st_nil ?_)
    | (apply st_a; (case hc => rfl); (case he => (simp only [go_sem, *] <;> rfl)); (case hu => (simp only [updL_nil, updL_cons] <;> rfl)); (case hp => first | trivial))
    | (refine Awp.skip ?_; try simp only [go_sem, *])
    | refine Awp.block ?_
    | (apply Awp.cond; (case hc => (simp only [go_sem, *] <;> rfl)); all_goals (intro hg; (try simp only [Bool.not_true, Bool.not_false, reduceCtorEq] at hg)))
    | refine Awp.seq ?_)
          refine Awp.loop (fun k : Nat => k ≤ bs.length ∧ ∀ i, i < k → tryE bs l x h t (bs.getD i zeroBy) = none) 300
            (fun k => fr2 bs l x h S j k) (fun k => bs.length - k) 0 ⟨Nat.zero_le _, fun j hj => by simp at hj⟩ ?_ ?_
          · unfold fr2 boxZ
            (apply Ghost.mk [] []; (case hdead => rfl); (case hinj => rfl); (case hV => (simp only [go_sem, *]) <;> (repeat' (first | refine And.intro ?_ ?_ | exact View.int (by first | rfl | omega | (simp; done) | (rw [wrap_i64] <;> (try simp only [Int.natCast_add]) <;> omega) | (simp [*]; done)) | exact .bp rfl (by decide) | exact .own rfl (by decide)))); (case hB => (simp only [go_sem, *]) <;> (repeat' (first | refine And.intro ?_ ?_ | exact ⟨_, rfl, BView.boxF rfl⟩ | exact ⟨_, rfl, .rowE (by first | rfl | omega | (simp; done) | (rw [wrap_i64] <;> (try simp only [Int.natCast_add]) <;> omega) | (simp [*]; done))⟩))))
          · intro k ⟨hk, hnk⟩
            by_cases hlk : k < bs.length
            · have hlk' : (k : Int) < bs.length := by omega
              have hatk := bys_at bs k hlk
              have hz : ((bs.getD k zeroBy).cells).length = 3 := rfl
              obtain ⟨d, hd⟩ : ∃ d, bs.getD k zeroBy = d := ⟨_, rfl⟩
              rw [hd] at hatk hz
              have hD : tryE bs l x h t d = (endsC l d (IntKind.i64.wrap (t + h))).findSome? (tryA bs l x t d) := rfl
              have hnx : tryE bs l x h t d = none → ∀ i, i < k + 1 → tryE bs l x h t (bs.getD i zeroBy) = none := fun hp => ltSucc hnk (by rw [hd]; exact hp)
              have hyes : ∀ {y : Sty}, tryE bs l x h t d = some y → S.findSome? (fun t => bs.findSome? (tryE bs l x h t)) = some y := fun {y} hp => by
                refine fs_hit (d := 0) hlt hno ?_
                rw [ht]
                exact fs_hit hlk hnk (by rw [hd]; exact hp)
              clear hno hnk ht hd
              unfold fr2 boxZ
              repeat' (first
    | (apply Awp.sreg; (case hn => (simp only [List.length_cons, List.length_nil, Nat.reduceAdd] <;> rfl)))
    | (refine st_nil ?_)
    | (apply st_a; (case hc => rfl); (case he => (simp only [go_sem, *] <;> rfl)); (case hu => (simp only [updL_nil, updL_cons] <;> rfl)); (case hp => first | trivial | omega | (simp; done)))
    | (refine Awp.skip ?_; try simp only [go_sem, *])
    | refine Awp.block ?_
    | (apply Awp.cond; (case hc => (simp only [go_sem, *] <;> rfl)); all_goals (intro hg; (try simp only [Bool.not_true, Bool.not_false, reduceCtorEq] at hg)))
    | refine Awp.seq ?_)
              refine Awp.loop (fun m : Nat => m ≤ l.length) 400 (fun m => fr3 bs l x h S j k (endsC (l.take m) d (IntKind.i64.wrap (t + h))) m) (fun m => l.length - m) 0 (by omega) ?_ ?_
              · have e1 : endsC (l.take 0) d (IntKind.i64.wrap (t + h)) = [IntKind.i64.wrap (t + h)] := asc_ext (compact_sorted (sortZ [IntKind.i64.wrap (t + h)]) (sortZ_asc _)).1 (by simp) fun y => ((compact_sorted (sortZ [IntKind.i64.wrap (t + h)]) (sortZ_asc _)).2 y).trans (mem_sortZ _ _)
                have e2 := ints_one1 (IntKind.i64.wrap (t + h))
                rw [e1]
                unfold fr3 boxZ
                (apply Ghost.mk [(3, 310)] []; (case hdead => rfl); (case hinj => rfl); (case hV => (simp only [go_sem, *]) <;> (repeat' (first | refine And.intro ?_ ?_ | exact View.int (by first | rfl | omega | (simp; done) | (rw [wrap_i64] <;> (try simp only [Int.natCast_add]) <;> omega) | (simp [*]; done)) | exact .bp rfl (by decide) | exact .own rfl (by decide)))); (case hB => (simp only [go_sem, *]) <;> (repeat' (first | refine And.intro ?_ ?_ | exact ⟨_, rfl, BView.boxF rfl⟩ | exact ⟨_, rfl, .rowE (by first | rfl | omega | (simp; done) | (rw [wrap_i64] <;> (try simp only [Int.natCast_add]) <;> omega) | (simp [*]; done))⟩))))
              · intro m hm
                by_cases hlm : m < l.length
                · have hlm' : (m : Int) < l.length := by omega
                  have hatm := stys_at l m hlm
                  have hzm : ((l.getD m zeroSty).cells).length = 8 := rfl
                  have hln := endsC_len (l.take m) d (IntKind.i64.wrap (t + h))
                  have htl : (l.take m).length = m := List.length_take_of_le hm
                  clear hD hnx hyes
                  cases hB : endD d (IntKind.i64.wrap (t + h)) (l.getD m zeroSty)
                  · have e3 := endsC_same l d (IntKind.i64.wrap (t + h)) m hlm hB
                    unfold endD at hB
                    unfold fr3 boxZ
                    repeat' (first
    | (apply Awp.sreg; (case hn => (simp only [List.length_cons, List.length_nil, Nat.reduceAdd] <;> rfl)))
    | (apply Awp.sdraw; (case hn => (simp only [List.length_cons, List.length_nil, Nat.reduceAdd] <;> rfl)))
    | (refine st_nil ?_)
    | (apply st_a; (case hc => rfl); (case he => (simp only [go_sem, *] <;> rfl)); (case hu => (simp only [updL_nil, updL_cons] <;> rfl)); (case hp => first | trivial | omega))
    | (apply Awp.reg; (case hn => (simp only [List.length_cons, List.length_nil, Nat.reduceAdd] <;> rfl)))
    | (refine Awp.skip ?_; try simp only [go_sem, *])
    | refine Awp.block ?_
    | (apply Awp.cond; (case hc => (simp only [go_sem, *] <;> rfl)); all_goals (intro hg; (try simp only [Bool.not_true, Bool.not_false, reduceCtorEq] at hg)))
    | refine Awp.seq ?_
    | (apply sl_a; (case hc => rfl); (case he => (simp only [go_sem, *] <;> rfl)); (case hu => (simp only [updL_nil, updL_cons] <;> rfl)); (case hl => (simp only [List.map_cons, List.map_nil] <;> rfl)); (case hp => first | trivial | omega))
    | (apply sl_gn; (case hv => (simp only [go_sem, *] <;> rfl)); (case hbw => rfl))
    | (apply sl_ga; (case hb => rfl); (case hv => (simp only [go_sem, *] <;> rfl)); (case he => (simp only [go_sem, *] <;> rfl)); (case hu => (simp only [updL_nil, updL_cons] <;> rfl)); (case hl => (simp only [List.map_cons, List.map_nil] <;> rfl)); (case hp => first | trivial | omega))
    | (apply sl_case; (case hv => (simp only [go_sem, *] <;> rfl)); all_goals (intro hg; (try simp only [Bool.not_true, Bool.not_false, reduceCtorEq] at hg)))
    | (refine sl_nil (And.intro (by first | exact drawOk_of (by decide +kernel) | (simp only [List.map_cons, List.map_nil]; exact drawOk_of (by decide +kernel)) | decide) ?_)))
                    all_goals first
                      | (refine ⟨m + 1, by omega, by omega, ?_⟩
                         rw [e3]
                         (apply Ghost.mk [] []; (case hdead => rfl); (case hinj => rfl); (case hV => (simp only [go_sem, *]) <;> (repeat' (first | refine And.intro ?_ ?_ | exact View.int (by first | rfl | omega | (simp; done) | (rw [wrap_i64] <;> (try simp only [Int.natCast_add]) <;> omega) | (simp [*]; done)) | exact .bp rfl (by decide) | exact .own rfl (by decide)))); (case hB => (simp only [go_sem, *]) <;> (repeat' (first | refine And.intro ?_ ?_ | exact ⟨_, rfl, BView.boxF rfl⟩ | exact ⟨_, rfl, .rowE (by first | rfl | omega | (simp; done) | (rw [wrap_i64] <;> (try simp only [Int.natCast_add]) <;> omega) | (simp [*]; done))⟩)))))
                      | (exfalso; simp only [Bool.and_true, Bool.true_and, Bool.and_false, Bool.false_and, reduceCtorEq, *] at hB; done)
                  · have p2 := with_ok (endsC (l.take m) d (IntKind.i64.wrap (t + h))) (l.getD m zeroSty).b (by omega)
                    rw [endsC_step l d (IntKind.i64.wrap (t + h)) m hlm hB] at p2
                    unfold endD at hB
                    unfold fr3 boxZ
                    repeat' (first
    | (apply Awp.sreg; (case hn => (simp only [List.length_cons, List.length_nil, Nat.reduceAdd] <;> rfl)))
    | (apply Awp.sdraw; (case hn => (simp only [List.length_cons, List.length_nil, Nat.reduceAdd] <;> rfl)))
    | (refine st_nil ?_)
    | (apply st_a; (case hc => rfl); (case he => (simp only [go_sem, *] <;> rfl)); (case hu => (simp only [updL_nil, updL_cons] <;> rfl)); (case hp => first | trivial | omega))
    | (apply st_cod; (case hc => (simp only [go_sem, *] <;> rfl)); (case hl => (simp only [go_sem, *] <;> rfl)); (case hn => (simp only [go_sem, *] <;> rfl)); (case hp => first | exact p2 | (have hXz := p2; simp only [go_sem, *] at hXz; exact hXz)); (case hd => first | exact sps_dry _ | exact ints_dry _ | (repeat' (first | exact Dry.v _ | exact Dry.any | exact Dry.nils | exact Dry.slE | refine Dry.agg ?_ | refine Dry.tup ?_ | (refine List.forall_mem_cons.2 (And.intro ?_ ?_)) | (intro cQ hQ; cases hQ; done)))); (case hm => first | decide | (simp; done)))
    | (apply Awp.reg; (case hn => (simp only [List.length_cons, List.length_nil, Nat.reduceAdd] <;> rfl)))
    | (refine Awp.skip ?_; try simp only [go_sem, *])
    | refine Awp.block ?_
    | (apply Awp.cond; (case hc => (simp only [go_sem, *] <;> rfl)); all_goals (intro hg; (try simp only [Bool.not_true, Bool.not_false, reduceCtorEq] at hg)))
    | refine Awp.seq ?_
    | (apply sl_a; (case hc => rfl); (case he => (simp only [go_sem, *] <;> rfl)); (case hu => (simp only [updL_nil, updL_cons] <;> rfl)); (case hl => (simp only [List.map_cons, List.map_nil] <;> rfl)); (case hp => first | trivial | omega))
    | (apply sl_gn; (case hv => (simp only [go_sem, *] <;> rfl)); (case hbw => rfl))
    | (apply sl_ga; (case hb => rfl); (case hv => (simp only [go_sem, *] <;> rfl)); (case he => (simp only [go_sem, *] <;> rfl)); (case hu => (simp only [updL_nil, updL_cons] <;> rfl)); (case hl => (simp only [List.map_cons, List.map_nil] <;> rfl)); (case hp => first | trivial | omega))
    | (apply sl_case; (case hv => (simp only [go_sem, *] <;> rfl)); all_goals (intro hg; (try simp only [Bool.not_true, Bool.not_false, reduceCtorEq] at hg)))
    | (refine sl_nil (And.intro (by first | exact drawOk_of (by decide +kernel) | (simp only [List.map_cons, List.map_nil]; exact drawOk_of (by decide +kernel)) | decide) ?_)))
                    all_goals first
                      | (refine ⟨m + 1, by omega, by omega, ?_⟩
                         (apply Ghost.mk [(3, 437)] []; (case hdead => rfl); (case hinj => rfl); (case hV => (simp only [go_sem, *]) <;> (repeat' (first | refine And.intro ?_ ?_ | exact View.int (by first | rfl | omega | (simp; done) | (rw [wrap_i64] <;> (try simp only [Int.natCast_add]) <;> omega) | (simp [*]; done)) | exact .bp rfl (by decide) | exact .own rfl (by decide)))); (case hB => (simp only [go_sem, *]) <;> (repeat' (first | refine And.intro ?_ ?_ | exact ⟨_, rfl, BView.boxF rfl⟩ | exact ⟨_, rfl, .rowE (by first | rfl | omega | (simp; done) | (rw [wrap_i64] <;> (try simp only [Int.natCast_add]) <;> omega) | (simp [*]; done))⟩)))))
                      | (exfalso; simp only [Bool.and_true, Bool.true_and, Bool.and_false, Bool.false_and, reduceCtorEq, *] at hB; done)
                · have hlm' : ¬ (m : Int) < l.length := by omega
                  have e1 : l.take m = l := List.take_of_length_le (by omega)
                  have hEl := endsC_len l d (IntKind.i64.wrap (t + h))
                  rw [e1]
                  unfold fr3 boxZ
                  repeat' (first
    | (apply Awp.sreg; (case hn => (simp only [List.length_cons, List.length_nil, Nat.reduceAdd] <;> rfl)))
    | (refine st_nil ?_)
    | (apply st_a; (case hc => rfl); (case he => (simp only [go_sem, *] <;> rfl)); (case hu => (simp only [updL_nil, updL_cons] <;> rfl)); (case hp => first | trivial))
    | (refine Awp.exit ?_; try simp only [go_sem, *])
    | refine Awp.block ?_
    | (apply Awp.cond; (case hc => (simp only [go_sem, *] <;> rfl)); all_goals (intro hg; (try simp only [Bool.not_true, Bool.not_false, reduceCtorEq] at hg)))
    | refine Awp.seq ?_)
                  obtain ⟨E, hE⟩ : ∃ E, endsC l d (IntKind.i64.wrap (t + h)) = E := ⟨_, rfl⟩
                  rw [hE] at hD hEl ⊢
                  clear hE e1 hlm hlm' hm
                  refine Awp.loop (fun m : Nat => m ≤ E.length ∧ ∀ i, i < m → tryA bs l x t d (E.getD i 0) = none) 500
                    (fun m => fr4 bs l x h S j k E m) (fun m => E.length - m) 0 ⟨Nat.zero_le _, fun j hj => by simp at hj⟩ ?_ ?_
                  · unfold fr4 boxZ
                    (apply Ghost.mk [] []; (case hdead => rfl); (case hinj => rfl); (case hV => (simp only [go_sem, *]) <;> (repeat' (first | refine And.intro ?_ ?_ | exact View.int (by first | rfl | omega | (simp; done) | (rw [wrap_i64] <;> (try simp only [Int.natCast_add]) <;> omega) | (simp [*]; done)) | exact .bp rfl (by decide) | exact .own rfl (by decide)))); (case hB => (simp only [go_sem, *]) <;> (repeat' (first | refine And.intro ?_ ?_ | exact ⟨_, rfl, BView.boxF rfl⟩ | exact ⟨_, rfl, .rowE (by first | rfl | omega | (simp; done) | (rw [wrap_i64] <;> (try simp only [Int.natCast_add]) <;> omega) | (simp [*]; done))⟩))))
                  · intro m ⟨hm, hnm⟩
                    by_cases hlm : m < E.length
                    · have hlm' : (m : Int) < E.length := by omega
                      have hatm := ints_at E m hlm
                      obtain ⟨e, he⟩ : ∃ e, E.getD m 0 = e := ⟨_, rfl⟩
                      rw [he] at hatm
                      have hnm2 : tryA bs l x t d e = none → ∀ i, i < m + 1 → tryA bs l x t d (E.getD i 0) = none := fun hp => ltSucc hnm (by rw [he]; exact hp)
                      have hyes2 : ∀ {y : Sty}, tryA bs l x t d e = some y → S.findSome? (fun t => bs.findSome? (tryE bs l x h t)) = some y := fun {y} hp => by
                        refine hyes ?_
                        rw [hD]
                        exact fs_hit (d := 0) hlm hnm (by rw [he]; exact hp)
                      have c6 := at_ok bs l (askd x d.nm t e) (by omega) (by omega) hx hs
                      clear hD hnx hyes hnm he
                      unfold tryA at hnm2 hyes2
                      generalize atD bs l (askd x d.nm t e) = r at *
                      cases r with
                      | none =>
                        have hn2 := hnm2 rfl
                        clear hnm2 hyes2
                        simp only [plE] at c6
                        unfold fr4 boxZ askd at *
                        repeat' (first
    | (apply Awp.sreg; (case hn => (simp only [List.length_cons, List.length_nil, Nat.reduceAdd] <;> rfl)))
    | (apply Awp.sdraw; (case hn => (simp only [List.length_cons, List.length_nil, Nat.reduceAdd] <;> rfl)))
    | (refine st_nil ?_)
    | (apply st_a; (case hc => rfl); (case he => (simp only [go_sem, *] <;> rfl)); (case hu => (simp only [updL_nil, updL_cons] <;> rfl)); (case hp => first | trivial))
    | (apply Awp.reg; (case hn => (simp only [List.length_cons, List.length_nil, Nat.reduceAdd] <;> rfl)))
    | (refine Awp.skip ?_; try simp only [go_sem, *])
    | refine Awp.block ?_
    | (apply Awp.cond; (case hc => (simp only [go_sem, *] <;> rfl)); all_goals (intro hg; (try simp only [Bool.not_true, Bool.not_false, reduceCtorEq] at hg)))
    | refine Awp.seq ?_
    | (apply sl_a; (case hc => rfl); (case he => (simp only [go_sem, *] <;> rfl)); (case hu => (simp only [updL_nil, updL_cons] <;> rfl)); (case hl => (simp only [List.map_cons, List.map_nil] <;> rfl)); (case hp => first | trivial | omega))
    | (apply sl_c; (case hc => (simp only [go_sem, *] <;> rfl)); (case hl => (simp only [go_sem, *] <;> rfl)); (case hn => (simp only [go_sem, *] <;> rfl)); (case hp => first | exact c6 | (have hXz := c6; simp only [go_sem, *] at hXz; exact hXz)); (case hd => first | exact .inl rfl | exact .inr (.v _) | exact .inr .any | exact .inr .nils); (case hm => first | decide | (simp; done)))
    | (refine sl_nil (And.intro (by first | exact drawOk_of (by decide +kernel) | (simp only [List.map_cons, List.map_nil]; exact drawOk_of (by decide +kernel)) | decide) ?_)))
                        refine ⟨m + 1, ⟨by omega, hn2⟩, by omega, ?_⟩
                        (apply Ghost.mk [] []; (case hdead => rfl); (case hinj => rfl); (case hV => (simp only [go_sem, *]) <;> (repeat' (first | refine And.intro ?_ ?_ | exact View.int (by first | rfl | omega | (simp; done) | (rw [wrap_i64] <;> (try simp only [Int.natCast_add]) <;> omega) | (simp [*]; done)) | exact .bp rfl (by decide) | exact .own rfl (by decide)))); (case hB => (simp only [go_sem, *]) <;> (repeat' (first | refine And.intro ?_ ?_ | exact ⟨_, rfl, BView.boxF rfl⟩ | exact ⟨_, rfl, .rowE (by first | rfl | omega | (simp; done) | (rw [wrap_i64] <;> (try simp only [Int.natCast_add]) <;> omega) | (simp [*]; done))⟩))))
                      | some y =>
                        have hy2 := hyes2 rfl
                        rw [hy2]
                        clear hnm2 hyes2 hy2
                        simp only [plE] at c6
                        unfold fr4 boxZ askd at *
                        repeat' (first
    | (apply Awp.sreg; (case hn => (simp only [List.length_cons, List.length_nil, Nat.reduceAdd] <;> rfl)))
    | (apply Awp.sdraw; (case hn => (simp only [List.length_cons, List.length_nil, Nat.reduceAdd] <;> rfl)))
    | (refine st_nil ?_)
    | (apply st_a; (case hc => rfl); (case he => (simp only [go_sem, *] <;> rfl)); (case hu => (simp only [updL_nil, updL_cons] <;> rfl)); (case hp => first | trivial))
    | (refine Awp.ret ?_; try simp only [go_sem, *])
    | (refine Awp.skip ?_; try simp only [go_sem, *])
    | refine Awp.block ?_
    | (apply Awp.cond; (case hc => (simp only [go_sem, *] <;> rfl)); all_goals (intro hg; (try simp only [Bool.not_true, Bool.not_false, reduceCtorEq] at hg)))
    | refine Awp.seq ?_
    | (apply sl_a; (case hc => rfl); (case he => (simp only [go_sem, *] <;> rfl)); (case hu => (simp only [updL_nil, updL_cons] <;> rfl)); (case hl => (simp only [List.map_cons, List.map_nil] <;> rfl)); (case hp => first | trivial | omega))
    | (apply sl_c; (case hc => (simp only [go_sem, *] <;> rfl)); (case hl => (simp only [go_sem, *] <;> rfl)); (case hn => (simp only [go_sem, *] <;> rfl)); (case hp => first | exact c6 | (have hXz := c6; simp only [go_sem, *] at hXz; exact hXz)); (case hd => first | exact .inl rfl | exact .inr (.v _) | exact .inr .any | exact .inr .nils); (case hm => first | decide | (simp; done)))
    | (refine sl_nil (And.intro (by first | exact drawOk_of (by decide +kernel) | (simp only [List.map_cons, List.map_nil]; exact drawOk_of (by decide +kernel)) | decide) ?_)))
                        all_goals repeat' (first | exact Lower.int (by first | rfl | (simp only [true_and, Bool.true_and, Bool.false_and, Bool.and_true, Bool.and_false, Bool.true_or, Bool.false_or, reduceIte, Bool.false_eq_true, *]; done) | (simp only [true_and, reduceIte, Bool.false_eq_true, *] <;> rfl) | (simp [true_and]; done) | (simp_all [true_and]; done) | omega) | exact Lower.str (by first | rfl | (simp only [true_and, Bool.true_and, Bool.false_and, Bool.and_true, Bool.and_false, Bool.true_or, Bool.false_or, reduceIte, Bool.false_eq_true, *]; done) | (simp only [true_and, reduceIte, Bool.false_eq_true, *] <;> rfl) | (simp [true_and]; done) | (simp_all [true_and]; done) | omega) | refine Lower.aggF ?_ | refine Lower.tupF ?_ | refine All2.cons ?_ ?_ | exact All2.nil)
                    · have hlm' : ¬ (m : Int) < E.length := by omega
                      have hn2 := hnx (by rw [hD]; exact fs_no (d := 0) (Nat.le_of_not_lt hlm) hnm)
                      clear hD hnx hyes hnm
                      unfold fr4 boxZ
                      repeat' (first
    | (apply Awp.sreg; (case hn => (simp only [List.length_cons, List.length_nil, Nat.reduceAdd] <;> rfl)))
    | (refine st_nil ?_)
    | (apply st_a; (case hc => rfl); (case he => (simp only [go_sem, *] <;> rfl)); (case hu => (simp only [updL_nil, updL_cons] <;> rfl)); (case hp => first | trivial))
    | (apply Awp.reg; (case hn => (simp only [List.length_cons, List.length_nil, Nat.reduceAdd] <;> rfl)))
    | (refine Awp.exit ?_; try simp only [go_sem, *])
    | (apply Awp.cond; (case hc => (simp only [go_sem, *] <;> rfl)); all_goals (intro hg; (try simp only [Bool.not_true, Bool.not_false, reduceCtorEq] at hg)))
    | refine Awp.seq ?_)
                      refine ⟨k + 1, ⟨by omega, hn2⟩, by omega, ?_⟩
                      (apply Ghost.mk [] []; (case hdead => rfl); (case hinj => rfl); (case hV => (simp only [go_sem, *]) <;> (repeat' (first | refine And.intro ?_ ?_ | exact View.int (by first | rfl | omega | (simp; done) | (rw [wrap_i64] <;> (try simp only [Int.natCast_add]) <;> omega) | (simp [*]; done)) | exact .bp rfl (by decide) | exact .own rfl (by decide)))); (case hB => (simp only [go_sem, *]) <;> (repeat' (first | refine And.intro ?_ ?_ | exact ⟨_, rfl, BView.boxF rfl⟩ | exact ⟨_, rfl, .rowE (by first | rfl | omega | (simp; done) | (rw [wrap_i64] <;> (try simp only [Int.natCast_add]) <;> omega) | (simp [*]; done))⟩))))
            · have hlk' : ¬ (k : Int) < bs.length := by omega
              have hn2 := ltSucc hno (by rw [ht]; exact fs_no (Nat.le_of_not_lt hlk) hnk)
              clear hno hnk hat ht
              unfold fr2 boxZ
              repeat' (first
    | (apply Awp.sreg; (case hn => (simp only [List.length_cons, List.length_nil, Nat.reduceAdd] <;> rfl)))
    | (refine st_nil ?_)
    | (apply st_a; (case hc => rfl); (case he => (simp only [go_sem, *] <;> rfl)); (case hu => (simp only [updL_nil, updL_cons] <;> rfl)); (case hp => first | trivial))
    | (apply Awp.reg; (case hn => (simp only [List.length_cons, List.length_nil, Nat.reduceAdd] <;> rfl)))
    | (refine Awp.exit ?_; try simp only [go_sem, *])
    | (apply Awp.cond; (case hc => (simp only [go_sem, *] <;> rfl)); all_goals (intro hg; (try simp only [Bool.not_true, Bool.not_false, reduceCtorEq] at hg)))
    | refine Awp.seq ?_)
              refine ⟨j + 1, ⟨by omega, hn2⟩, by omega, ?_⟩
              (apply Ghost.mk [] []; (case hdead => rfl); (case hinj => rfl); (case hV => (simp only [go_sem, *]) <;> (repeat' (first | refine And.intro ?_ ?_ | exact View.int (by first | rfl | omega | (simp; done) | (rw [wrap_i64] <;> (try simp only [Int.natCast_add]) <;> omega) | (simp [*]; done)) | exact .bp rfl (by decide) | exact .own rfl (by decide)))); (case hB => (simp only [go_sem, *]) <;> (repeat' (first | refine And.intro ?_ ?_ | exact ⟨_, rfl, BView.boxF rfl⟩ | exact ⟨_, rfl, .rowE (by first | rfl | omega | (simp; done) | (rw [wrap_i64] <;> (try simp only [Int.natCast_add]) <;> omega) | (simp [*]; done))⟩))))
        · have hlt' : ¬ (j : Int) < S.length := by omega
          have hn2 : S.findSome? (fun t => bs.findSome? (tryE bs l x h t)) = none := fs_no (d := 0) (Nat.le_of_not_lt hlt) hno
          rw [hn2]
          clear hno hn2
          unfold fr1 boxZ
          repeat' (first
    | (apply Awp.sreg; (case hn => (simp only [List.length_cons, List.length_nil, Nat.reduceAdd] <;> rfl)))
    | (refine st_nil ?_)
    | (apply st_a; (case hc => rfl); (case he => (simp only [go_sem, *] <;> rfl)); (case hu => (simp only [updL_nil, updL_cons] <;> rfl)); (case hp => first | trivial))
    | (refine Awp.ret ?_; try simp only [go_sem, *])
    | (refine Awp.exit ?_; try simp only [go_sem, *])
    | (apply Awp.cond; (case hc => (simp only [go_sem, *] <;> rfl)); all_goals (intro hg; (try simp only [Bool.not_true, Bool.not_false, reduceCtorEq] at hg)))
    | refine Awp.seq ?_)
          all_goals repeat' (first | exact Lower.int (by first | rfl | (simp only [zeroSty, Bool.true_and, Bool.false_and, Bool.and_true, Bool.and_false, Bool.true_or, Bool.false_or, reduceIte, Bool.false_eq_true, *]; done) | (simp only [zeroSty, reduceIte, Bool.false_eq_true, *] <;> rfl) | (simp [zeroSty]; done) | (simp_all [zeroSty]; done) | omega) | exact Lower.str (by first | rfl | (simp only [zeroSty, Bool.true_and, Bool.false_and, Bool.and_true, Bool.and_false, Bool.true_or, Bool.false_or, reduceIte, Bool.false_eq_true, *]; done) | (simp only [zeroSty, reduceIte, Bool.false_eq_true, *] <;> rfl) | (simp [zeroSty]; done) | (simp_all [zeroSty]; done) | omega) | refine Lower.aggF ?_ | refine Lower.tupF ?_ | refine All2.cons ?_ ?_ | exact All2.nil)
end Go.Proofs
end
section
set_option linter.unusedVariables false
set_option linter.unusedSimpArgs false
namespace Go.Proofs
open Go Go.Ab
set_option maxHeartbeats 8000000
set_option maxRecDepth 100000
set_option linter.unusedSimpArgs false
set_option linter.unusedVariables false
attribute [local irreducible] Awp aops aopsL Go.Ab.Pure PureOwn
theorem sameI_ok (a : List Int) (hl : a.length < 1000000) : Pure Tryz.prog 14 [.sl (ints a), .sl (ints a)] (.v (.bool true)) := by
  have hn : ((a.length : Int) != a.length) = false := by simp
  refine fn_pure Tryz.F14 (Nat.le_of_ble_eq_true rfl) ?_; unfold Tryz.ac14
  repeat' (first
    | (apply Awp.sreg; (case hn => (simp only [List.length_cons, List.length_nil, Nat.reduceAdd] <;> rfl)))
    | (refine st_nil ?_)
    | (apply st_a; (case hc => rfl); (case he => (simp only [go_sem, *] <;> rfl)); (case hu => (simp only [updL_nil, updL_cons] <;> rfl)); (case hp => first | trivial))
    | (refine Awp.skip ?_; try simp only [go_sem, *])
    | refine Awp.block ?_
    | (apply Awp.cond; (case hc => (simp only [go_sem, *] <;> rfl)); all_goals (intro hg; (try simp only [Bool.not_true, Bool.not_false, reduceCtorEq] at hg)))
    | refine Awp.seq ?_)
  clear hn
  refine Awp.loop (fun i : Nat => i ≤ a.length) 60 (fun i => mkS [(0, .sl (ints a)), (1, .sl (ints a)), (5, .v (.int .i64 i))] []) (fun i => a.length - i) 0 (by omega) ?_ ?_
  · (apply Ghost.mk [] []; (case hdead => rfl); (case hinj => rfl); (case hV => (simp only [go_sem, *]) <;> (repeat' (first | exact View.int (by first | rfl | omega | (simp; done) | (rw [wrap_i64] <;> (try simp only [Int.natCast_add]) <;> omega) | (simp [*]; done))))); (case hB => (simp only [go_sem, *]) <;> (repeat' (first | skip; done))))
  · intro i hi
    by_cases hlt : i < a.length
    · have hlt' : (i : Int) < a.length := by omega
      have hat := ints_at a i hlt
      generalize a.getD i 0 = x at *
      have e1 : (x != x) = false := by simp
      repeat' (first
    | (apply Awp.sreg; (case hn => (simp only [List.length_cons, List.length_nil, Nat.reduceAdd] <;> rfl)))
    | (apply Awp.sdraw; (case hn => (simp only [List.length_cons, List.length_nil, Nat.reduceAdd] <;> rfl)))
    | (refine st_nil ?_)
    | (apply st_a; (case hc => rfl); (case he => (simp only [go_sem, *] <;> rfl)); (case hu => (simp only [updL_nil, updL_cons] <;> rfl)); (case hp => first | trivial))
    | (apply Awp.reg; (case hn => (simp only [List.length_cons, List.length_nil, Nat.reduceAdd] <;> rfl)))
    | (refine Awp.skip ?_; try simp only [go_sem, *])
    | refine Awp.block ?_
    | (apply Awp.cond; (case hc => (simp only [go_sem, *] <;> rfl)); all_goals (intro hg; (try simp only [Bool.not_true, Bool.not_false, reduceCtorEq] at hg)))
    | refine Awp.seq ?_
    | (apply sl_a; (case hc => rfl); (case he => (simp only [go_sem, *] <;> rfl)); (case hu => (simp only [updL_nil, updL_cons] <;> rfl)); (case hl => (simp only [List.map_cons, List.map_nil] <;> rfl)); (case hp => first | trivial | omega))
    | (refine sl_nil (And.intro (by first | exact drawOk_of (by decide +kernel) | (simp only [List.map_cons, List.map_nil]; exact drawOk_of (by decide +kernel)) | decide) ?_)))
      refine ⟨i + 1, by omega, by omega, ?_⟩
      (apply Ghost.mk [] []; (case hdead => rfl); (case hinj => rfl); (case hV => (simp only [go_sem, *]) <;> (repeat' (first | exact View.int (by first | rfl | omega | (simp; done) | (rw [wrap_i64] <;> (try simp only [Int.natCast_add]) <;> omega) | (simp [*]; done))))); (case hB => (simp only [go_sem, *]) <;> (repeat' (first | skip; done))))
    · have hlt' : ¬ (i : Int) < a.length := by omega
      repeat' (first
    | (apply Awp.sreg; (case hn => (simp only [List.length_cons, List.length_nil, Nat.reduceAdd] <;> rfl)))
    | (refine st_nil ?_)
    | (apply st_a; (case hc => rfl); (case he => (simp only [go_sem, *] <;> rfl)); (case hu => (simp only [updL_nil, updL_cons] <;> rfl)); (case hp => first | trivial))
    | (refine Awp.ret ?_; try simp only [go_sem, *])
    | (refine Awp.exit ?_; try simp only [go_sem, *])
    | (apply Awp.cond; (case hc => (simp only [go_sem, *] <;> rfl)); all_goals (intro hg; (try simp only [Bool.not_true, Bool.not_false, reduceCtorEq] at hg); (try have hg' := hg); (try simp only [decide_eq_true_eq, decide_eq_false_iff_not, Bool.and_eq_true, Bool.or_eq_false_iff, bne_iff_ne, bne_eq_false_iff_eq, beq_iff_eq, beq_eq_false_iff_ne, Int.not_lt, Int.not_le, Int.ofNat_lt, Int.ofNat_le, Int.natCast_inj] at hg')))
    | refine Awp.seq ?_)
      all_goals repeat' (first | exact Lower.bool (by first | rfl | (simp only [true_and, Bool.true_and, Bool.false_and, Bool.and_true, Bool.and_false, Bool.true_or, Bool.false_or, reduceIte, Bool.false_eq_true, *]; done) | (simp only [true_and, reduceIte, Bool.false_eq_true, *] <;> rfl) | (simp [true_and]; done) | (simp_all [true_and]; done) | omega))
def bigBy (q : By) : Bool := decide ((100 : Int) < q.nm.size)
def bigSty (q : Sty) : Bool := decide ((100 : Int) < q.item.size) || decide ((100 : Int) < q.bay.size)
def fewB (bs : List By) (l : List Sty) (m : Int) : Bool := !(decide ((9 : Int) < bs.length) || decide (m < l.length)) && !bs.any bigBy && !l.any bigSty
theorem few_ok (bs : List By) (l : List Sty) (m : Int) (hm : m < 1000) : Pure Tryz.prog 10 [.sl (bys bs), .sl (stys l), .v (.int .i64 m)] (.v (.bool (fewB bs l m))) := by
  unfold fewB
  cases h0 : (decide ((9 : Int) < bs.length) || decide (m < l.length))
  case true =>
    refine fn_pure Tryz.F10 (Nat.le_of_ble_eq_true rfl) ?_; unfold Tryz.ac10
    repeat' (first
    | (apply Awp.sreg; (case hn => (simp only [List.length_cons, List.length_nil, Nat.reduceAdd] <;> rfl)))
    | (refine st_nil ?_)
    | (apply st_a; (case hc => rfl); (case he => (simp only [go_sem, *] <;> rfl)); (case hu => (simp only [updL_nil, updL_cons] <;> rfl)); (case hp => first | trivial))
    | (apply st_m; (case hc => rfl); (case hg => (simp only [go_sem, *] <;> rfl)); (case he => (intro hQz; (try simp only [wantB_t, wantB_f, Bool.and_eq_true, Bool.not_eq_true', Bool.not_true, Bool.not_false, and_true, true_and] at hQz); simp only [go_sem, *] <;> rfl)); (case hp => (intro hQz; (try simp only [wantB_t, wantB_f, Bool.and_eq_true, Bool.not_eq_true', Bool.or_eq_false_iff, decide_eq_true_eq, decide_eq_false_iff_not, beq_iff_eq, beq_eq_false_iff_ne, bne_iff_ne, bne_eq_false_iff_eq, Int.not_lt, Int.not_le, Int.ofNat_lt, Int.ofNat_le] at hQz); first | trivial)))
    | (refine Awp.ret ?_; try simp only [go_sem, *])
    | (apply Awp.cond; (case hc => (simp only [go_sem, *] <;> rfl)); all_goals (intro hg; (try simp only [Bool.not_true, Bool.not_false, reduceCtorEq] at hg)))
    | refine Awp.seq ?_)
    all_goals repeat' (first | exact Lower.bool (by first | rfl | (simp only [true_and, Bool.true_and, Bool.false_and, Bool.and_true, Bool.and_false, Bool.true_or, Bool.false_or, reduceIte, Bool.false_eq_true, *]; done) | (simp only [true_and, reduceIte, Bool.false_eq_true, *] <;> rfl) | (simp [true_and]; done) | (simp_all [true_and]; done) | omega))
  have h9 : bs.length ≤ 9 ∧ (l.length : Int) ≤ m := by
    simp only [Bool.or_eq_false_iff, decide_eq_false_iff_not] at h0
    omega
  refine fn_pure Tryz.F10 (Nat.le_of_ble_eq_true rfl) ?_; unfold Tryz.ac10
  repeat' (first
    | (apply Awp.sreg; (case hn => (simp only [List.length_cons, List.length_nil, Nat.reduceAdd] <;> rfl)))
    | (refine st_nil ?_)
    | (apply st_a; (case hc => rfl); (case he => (simp only [go_sem, *] <;> rfl)); (case hu => (simp only [updL_nil, updL_cons] <;> rfl)); (case hp => first | trivial))
    | (apply st_m; (case hc => rfl); (case hg => (simp only [go_sem, *] <;> rfl)); (case he => (intro hQz; (try simp only [wantB_t, wantB_f, Bool.and_eq_true, Bool.not_eq_true', Bool.not_true, Bool.not_false, and_true, true_and] at hQz); simp only [go_sem, *] <;> rfl)); (case hp => (intro hQz; (try simp only [wantB_t, wantB_f, Bool.and_eq_true, Bool.not_eq_true', Bool.or_eq_false_iff, decide_eq_true_eq, decide_eq_false_iff_not, beq_iff_eq, beq_eq_false_iff_ne, bne_iff_ne, bne_eq_false_iff_eq, Int.not_lt, Int.not_le, Int.ofNat_lt, Int.ofNat_le] at hQz); first | trivial)))
    | (refine Awp.skip ?_; try simp only [go_sem, *])
    | refine Awp.block ?_
    | (apply Awp.cond; (case hc => (simp only [go_sem, *] <;> rfl)); all_goals (intro hg; (try simp only [Bool.not_true, Bool.not_false, reduceCtorEq] at hg)))
    | refine Awp.seq ?_)
  clear h0
  refine Awp.loop (fun i : Nat => i ≤ bs.length ∧ ∀ j, j < i → bigBy (bs.getD j zeroBy) = false) 60 (fun i => mkS [(0, .sl (bys bs)), (1, .sl (stys l)), (7, .v (.int .i64 i))] []) (fun i => bs.length - i) 0 (by simp) ?_ ?_
  · (apply Ghost.mk [] []; (case hdead => rfl); (case hinj => rfl); (case hV => (simp only [go_sem, *]) <;> (repeat' (first | exact View.int (by first | rfl | omega | (simp; done) | (rw [wrap_i64] <;> (try simp only [Int.natCast_add]) <;> omega) | (simp [*]; done))))); (case hB => (simp only [go_sem, *]) <;> (repeat' (first | skip; done))))
  · intro i ⟨hi, hj⟩
    by_cases hlt : i < bs.length
    · have hlt' : (i : Int) < bs.length := by omega
      have hat := bys_at bs i hlt
      have hz : ((bs.getD i zeroBy).cells).length = 3 := rfl
      cases hB : bigBy (bs.getD i zeroBy)
      · have hB' := hB
        unfold bigBy at hB'
        repeat' (first
    | (apply Awp.sreg; (case hn => (simp only [List.length_cons, List.length_nil, Nat.reduceAdd] <;> rfl)))
    | (refine st_nil ?_)
    | (apply st_a; (case hc => rfl); (case he => (simp only [go_sem, *] <;> rfl)); (case hu => (simp only [updL_nil, updL_cons] <;> rfl)); (case hp => first | trivial | omega))
    | (apply Awp.reg; (case hn => (simp only [List.length_cons, List.length_nil, Nat.reduceAdd] <;> rfl)))
    | (refine Awp.skip ?_; try simp only [go_sem, *])
    | refine Awp.block ?_
    | (apply Awp.cond; (case hc => (simp only [go_sem, *] <;> rfl)); all_goals (intro hg; (try simp only [Bool.not_true, Bool.not_false, reduceCtorEq] at hg)))
    | refine Awp.seq ?_)
        refine ⟨i + 1, ⟨by omega, ltSucc hj hB⟩, by omega, ?_⟩
        (apply Ghost.mk [] []; (case hdead => rfl); (case hinj => rfl); (case hV => (simp only [go_sem, *]) <;> (repeat' (first | exact View.int (by first | rfl | omega | (simp; done) | (rw [wrap_i64] <;> (try simp only [Int.natCast_add]) <;> omega) | (simp [*]; done))))); (case hB => (simp only [go_sem, *]) <;> (repeat' (first | skip; done))))
      · have han := any_in (d := zeroBy) hlt hB
        unfold bigBy at hB
        repeat' (first
    | (apply Awp.sreg; (case hn => (simp only [List.length_cons, List.length_nil, Nat.reduceAdd] <;> rfl)))
    | (refine st_nil ?_)
    | (apply st_a; (case hc => rfl); (case he => (simp only [go_sem, *] <;> rfl)); (case hu => (simp only [updL_nil, updL_cons] <;> rfl)); (case hp => first | trivial | omega))
    | (refine Awp.ret ?_; try simp only [go_sem, *])
    | (refine Awp.skip ?_; try simp only [go_sem, *])
    | refine Awp.block ?_
    | (apply Awp.cond; (case hc => (simp only [go_sem, *] <;> rfl)); all_goals (intro hg; (try simp only [Bool.not_true, Bool.not_false, reduceCtorEq] at hg)))
    | refine Awp.seq ?_)
        all_goals repeat' (first | exact Lower.bool (by first | rfl | (simp only [true_and, Bool.true_and, Bool.false_and, Bool.and_true, Bool.and_false, Bool.true_or, Bool.false_or, reduceIte, Bool.false_eq_true, *]; done) | (simp only [true_and, reduceIte, Bool.false_eq_true, *] <;> rfl) | (simp [true_and]; done) | (simp_all [true_and]; done) | omega))
    · have hlt' : ¬ (i : Int) < bs.length := by omega
      have han := any_end (d := zeroBy) (Nat.le_of_not_lt hlt) hj
      rw [han]
      clear hj
      repeat' (first
    | (apply Awp.sreg; (case hn => (simp only [List.length_cons, List.length_nil, Nat.reduceAdd] <;> rfl)))
    | (refine st_nil ?_)
    | (apply st_a; (case hc => rfl); (case he => (simp only [go_sem, *] <;> rfl)); (case hu => (simp only [updL_nil, updL_cons] <;> rfl)); (case hp => first | trivial))
    | (refine Awp.exit ?_; try simp only [go_sem, *])
    | refine Awp.block ?_
    | (apply Awp.cond; (case hc => (simp only [go_sem, *] <;> rfl)); all_goals (intro hg; (try simp only [Bool.not_true, Bool.not_false, reduceCtorEq] at hg)))
    | refine Awp.seq ?_)
      clear hlt hlt' hi han
      refine Awp.loop (fun i : Nat => i ≤ l.length ∧ ∀ j, j < i → bigSty (l.getD j zeroSty) = false) 100 (fun i => mkS [(1, .sl (stys l)), (8, .v (.int .i64 i))] []) (fun i => l.length - i) 0 (by simp) ?_ ?_
      · (apply Ghost.mk [] []; (case hdead => rfl); (case hinj => rfl); (case hV => (simp only [go_sem, *]) <;> (repeat' (first | exact View.int (by first | rfl | omega | (simp; done) | (rw [wrap_i64] <;> (try simp only [Int.natCast_add]) <;> omega) | (simp [*]; done))))); (case hB => (simp only [go_sem, *]) <;> (repeat' (first | skip; done))))
      · intro i ⟨hi, hj⟩
        by_cases hlt : i < l.length
        · have hlt' : (i : Int) < l.length := by omega
          have hat := stys_at l i hlt
          have hz : ((l.getD i zeroSty).cells).length = 8 := rfl
          cases hB : bigSty (l.getD i zeroSty)
          · have hB' := hB
            unfold bigSty at hB'
            repeat' (first
    | (apply Awp.sreg; (case hn => (simp only [List.length_cons, List.length_nil, Nat.reduceAdd] <;> rfl)))
    | (refine st_nil ?_)
    | (apply st_a; (case hc => rfl); (case he => (simp only [go_sem, *] <;> rfl)); (case hu => (simp only [updL_nil, updL_cons] <;> rfl)); (case hp => first | trivial | omega))
    | (apply st_m; (case hc => rfl); (case hg => (simp only [go_sem, *] <;> rfl)); (case he => (intro hQz; (try simp only [wantB_t, wantB_f, Bool.and_eq_true, Bool.not_eq_true', Bool.not_true, Bool.not_false, and_true, true_and] at hQz); simp only [go_sem, *] <;> rfl)); (case hp => (intro hQz; (try simp only [wantB_t, wantB_f, Bool.and_eq_true, Bool.not_eq_true', Bool.or_eq_false_iff, decide_eq_true_eq, decide_eq_false_iff_not, beq_iff_eq, beq_eq_false_iff_ne, bne_iff_ne, bne_eq_false_iff_eq, Int.not_lt, Int.not_le, Int.ofNat_lt, Int.ofNat_le] at hQz); first | trivial | omega)))
    | (apply Awp.reg; (case hn => (simp only [List.length_cons, List.length_nil, Nat.reduceAdd] <;> rfl)))
    | (refine Awp.skip ?_; try simp only [go_sem, *])
    | refine Awp.block ?_
    | (apply Awp.cond; (case hc => (simp only [go_sem, *] <;> rfl)); all_goals (intro hg; (try simp only [Bool.not_true, Bool.not_false, reduceCtorEq] at hg)))
    | refine Awp.seq ?_)
            refine ⟨i + 1, ⟨by omega, ltSucc hj hB⟩, by omega, ?_⟩
            (apply Ghost.mk [] []; (case hdead => rfl); (case hinj => rfl); (case hV => (simp only [go_sem, *]) <;> (repeat' (first | exact View.int (by first | rfl | omega | (simp; done) | (rw [wrap_i64] <;> (try simp only [Int.natCast_add]) <;> omega) | (simp [*]; done))))); (case hB => (simp only [go_sem, *]) <;> (repeat' (first | skip; done))))
          · have han := any_in (d := zeroSty) hlt hB
            unfold bigSty at hB
            repeat' (first
    | (apply Awp.sreg; (case hn => (simp only [List.length_cons, List.length_nil, Nat.reduceAdd] <;> rfl)))
    | (refine st_nil ?_)
    | (apply st_a; (case hc => rfl); (case he => (simp only [go_sem, *] <;> rfl)); (case hu => (simp only [updL_nil, updL_cons] <;> rfl)); (case hp => first | trivial | omega))
    | (apply st_m; (case hc => rfl); (case hg => (simp only [go_sem, *] <;> rfl)); (case he => (intro hQz; (try simp only [wantB_t, wantB_f, Bool.and_eq_true, Bool.not_eq_true', Bool.not_true, Bool.not_false, and_true, true_and] at hQz); simp only [go_sem, *] <;> rfl)); (case hp => (intro hQz; (try simp only [wantB_t, wantB_f, Bool.and_eq_true, Bool.not_eq_true', Bool.or_eq_false_iff, decide_eq_true_eq, decide_eq_false_iff_not, beq_iff_eq, beq_eq_false_iff_ne, bne_iff_ne, bne_eq_false_iff_eq, Int.not_lt, Int.not_le, Int.ofNat_lt, Int.ofNat_le] at hQz); first | trivial | omega)))
    | (refine Awp.ret ?_; try simp only [go_sem, *])
    | (refine Awp.skip ?_; try simp only [go_sem, *])
    | refine Awp.block ?_
    | (apply Awp.cond; (case hc => (simp only [go_sem, *] <;> rfl)); all_goals (intro hg; (try simp only [Bool.not_true, Bool.not_false, reduceCtorEq] at hg)))
    | refine Awp.seq ?_)
            all_goals repeat' (first | exact Lower.bool (by first | rfl | (simp only [true_and, Bool.true_and, Bool.false_and, Bool.and_true, Bool.and_false, Bool.true_or, Bool.false_or, reduceIte, Bool.false_eq_true, *]; done) | (simp only [true_and, reduceIte, Bool.false_eq_true, *] <;> rfl) | (simp [true_and]; done) | (simp_all [true_and]; done) | omega))
        · have hlt' : ¬ (i : Int) < l.length := by omega
          have han := any_end (d := zeroSty) (Nat.le_of_not_lt hlt) hj
          repeat' (first
    | (apply Awp.sreg; (case hn => (simp only [List.length_cons, List.length_nil, Nat.reduceAdd] <;> rfl)))
    | (refine st_nil ?_)
    | (apply st_a; (case hc => rfl); (case he => (simp only [go_sem, *] <;> rfl)); (case hu => (simp only [updL_nil, updL_cons] <;> rfl)); (case hp => first | trivial))
    | (refine Awp.ret ?_; try simp only [go_sem, *])
    | (refine Awp.exit ?_; try simp only [go_sem, *])
    | (apply Awp.cond; (case hc => (simp only [go_sem, *] <;> rfl)); all_goals (intro hg; (try simp only [Bool.not_true, Bool.not_false, reduceCtorEq] at hg)))
    | refine Awp.seq ?_)
          all_goals repeat' (first | exact Lower.bool (by first | rfl | (simp only [true_and, Bool.true_and, Bool.false_and, Bool.and_true, Bool.and_false, Bool.true_or, Bool.false_or, reduceIte, Bool.false_eq_true, *]; done) | (simp only [true_and, reduceIte, Bool.false_eq_true, *] <;> rfl) | (simp [true_and]; done) | (simp_all [true_and]; done) | omega))
theorem few_get {bs : List By} {l : List Sty} {m : Int} (h : fewB bs l m = true) : bs.length ≤ 9 ∧ (l.length : Int) ≤ m ∧ ∀ i, i < l.length → (l.getD i zeroSty).item.size ≤ 100 := by
  unfold fewB at h
  simp only [Bool.and_eq_true, Bool.not_eq_true', Bool.or_eq_false_iff, decide_eq_false_iff_not] at h
  refine ⟨by omega, by omega, fun i hi => ?_⟩
  have h2 := h.2
  rw [List.any_eq_false] at h2
  have := h2 _ (List.getElem_mem hi)
  unfold bigSty at this
  simp only [Bool.or_eq_true, decide_eq_true_eq] at this
  have e : l.getD i zeroSty = l[i] := by simp [List.getD_eq_getElem?_getD, hi]
  rw [e]
  omega
end Go.Proofs
end
section
set_option linter.unusedVariables false
set_option linter.unusedSimpArgs false
namespace Go.Proofs
open Go Go.Ab
set_option maxHeartbeats 8000000
set_option maxRecDepth 100000
set_option linter.unusedSimpArgs false
set_option linter.unusedVariables false
attribute [local irreducible] Awp aops aopsL Go.Ab.Pure PureOwn
theorem delC_ok (nm : ByteArray) (x : Sty) : Pure Tryz.prog 48 [x.av, .rp [.v (.string nm)]] (.v (.bool (hullB nm x))) := by
  refine fn_pure Tryz.F48 (Nat.le_of_ble_eq_true rfl) ?_; unfold Tryz.ac48
  repeat' (first
    | (apply Awp.sreg; (case hn => (simp only [List.length_cons, List.length_nil, Nat.reduceAdd] <;> rfl)))
    | (refine st_nil ?_)
    | (apply st_a; (case hc => rfl); (case he => (simp only [go_sem, *] <;> rfl)); (case hu => (simp only [updL_nil, updL_cons] <;> rfl)); (case hp => first | trivial))
    | (refine Awp.ret ?_; try simp only [go_sem, *]))
  all_goals repeat' (first | exact Lower.bool (by first | rfl | (simp only [hullB, Bool.true_and, Bool.false_and, Bool.and_true, Bool.and_false, Bool.true_or, Bool.false_or, reduceIte, Bool.false_eq_true, *]; done) | (simp only [hullB, reduceIte, Bool.false_eq_true, *] <;> rfl) | (simp [hullB]; done) | (simp_all [hullB]; done) | omega))
def movB (z : Sty) (h : Int) (q : Sty) : Sty := if (q.bay.toList == z.bay.toList) && (q.b == z.b) then ⟨q.item, q.bay, q.x, q.y, q.len, q.wid, q.a, IntKind.i64.wrap (q.b + h)⟩ else q
def delayL (l : List Sty) (n : Nat) (h : Int) : List Sty := l.map (movB (l.getD n zeroSty) h)
def delayE (bs : List By) (l : List Sty) (hull : ByteArray) (h : Int) : List Sty × Int :=
  if dockE bs l != 0 then ([], dockE bs l) else if decide (idxF (hullB hull) l < 0) then ([], 8) else if !(decide (0 ≤ h) && decide (h ≤ 1048576)) then ([], 9) else
  if dockE bs (delayL l (idxF (hullB hull) l).toNat h) != 0 then ([], 19) else (delayL l (idxF (hullB hull) l).toNat h, 0)
theorem delayL_len (l : List Sty) (n : Nat) (h : Int) : (delayL l n h).length = l.length := by simp [delayL]
theorem delayL_at (l : List Sty) (n : Nat) (h : Int) (i : Nat) (hi : i < l.length) : (delayL l n h).getD i zeroSty = movB (l.getD n zeroSty) h (l.getD i zeroSty) := by
  simp [delayL, List.getD_eq_getElem?_getD, hi]
theorem stys_set (l : List Sty) (i : Nat) (x : Sty) : (stys l).set i x.cells = stys (l.set i x) := by simp [stys, List.map_set]
def mixL (D l : List Sty) (i : Nat) : List Sty := D.take i ++ l.drop i
theorem mix_len (D l : List Sty) (i : Nat) (h : D.length = l.length) (hi : i ≤ l.length) : (mixL D l i).length = l.length := by simp [mixL]; omega
theorem mix_at (D l : List Sty) (i : Nat) (h : D.length = l.length) (hi : i < l.length) : (mixL D l i).getD i zeroSty = l.getD i zeroSty := by
  unfold mixL
  rw [List.getD_eq_getElem?_getD, List.getElem?_append_right (by simp; omega), List.getElem?_drop, List.getD_eq_getElem?_getD]
  congr 2
  simp; omega
theorem mix_step (D l : List Sty) (i : Nat) (h : D.length = l.length) (hi : i < l.length) : mixL D l (i + 1) = (mixL D l i).set i (D.getD i zeroSty) := by
  unfold mixL
  have hl : (D.take i).length = i := by simp; omega
  rw [take_snoc D zeroSty i (by omega), List.set_append, if_neg (by omega), hl, Nat.sub_self, List.drop_eq_getElem_cons hi, List.set_cons_zero]
  simp
theorem mix_same (D l : List Sty) (i : Nat) (h : D.length = l.length) (hi : i < l.length) (e : D.getD i zeroSty = l.getD i zeroSty) : mixL D l (i + 1) = mixL D l i := by
  rw [mix_step D l i h hi, e]
  refine List.ext_getElem? fun k => ?_
  rw [List.getElem?_set]
  split
  · rename_i hk
    subst hk
    have hm := mix_at D l i h hi
    have hl := mix_len D l i h (by omega)
    rw [List.getD_eq_getElem?_getD, List.getElem?_eq_getElem (by omega), Option.getD_some] at hm
    rw [if_pos (by omega), List.getElem?_eq_getElem (by omega), hm]
  · rfl
end Go.Proofs
end
section
set_option linter.unusedVariables false
set_option linter.unusedSimpArgs false
namespace Go.Proofs
open Go Go.Ab
set_option maxHeartbeats 8000000
set_option maxRecDepth 100000
set_option linter.unusedSimpArgs false
set_option linter.unusedVariables false
attribute [local irreducible] Awp aops aopsL Go.Ab.Pure PureOwn
theorem ginter_ok (a b : List Sp) (ha : a.length < 2000) (hb : b.length < 2000) : PureOwn Tryz.prog 37 [.sl (sps a), .sl (sps b)] (sps (canon (interL a b))) 2 30 := by
  have c0 := sweep_ok 59 (fun x y => x && y) andC_ok rfl a b (interL a b) ha hb (fun n => by rw [inter_has, Bool.and_eq_true, hasB_iff, hasB_iff])
  refine fn_own Tryz.F37 (Nat.le_of_ble_eq_true rfl) ?_; unfold Tryz.ac37
  repeat' (first
    | (apply Awp.sreg; (case hn => (simp only [List.length_cons, List.length_nil, Nat.reduceAdd] <;> rfl)))
    | (refine st_nil ?_)
    | (apply st_a; (case hc => rfl); (case he => (simp only [go_sem, *] <;> rfl)); (case hu => (simp only [updL_nil, updL_cons] <;> rfl)); (case hp => first | trivial))
    | (apply st_co; (case hc => (simp only [go_sem, *] <;> rfl)); (case hl => (simp only [go_sem, *] <;> rfl)); (case hn => (simp only [go_sem, *] <;> rfl)); (case hp => first | exact c0 | (have hXz := c0; simp only [go_sem, *] at hXz; exact hXz)))
    | (refine Awp.ret ?_; try simp only [go_sem, *]))
  all_goals exact ⟨_, rfl, rfl⟩
theorem gminus_ok (a b : List Sp) (ha : a.length < 2000) (hb : b.length < 2000) : PureOwn Tryz.prog 36 [.sl (sps a), .sl (sps b)] (sps (minusL a b)) 2 30 := by
  have c0 := sweep_ok 58 (fun x y => x && !y) diffC_ok rfl a b (minusL a b) ha hb (fun n => by
    rw [(minus_is a b).2 n, Bool.and_eq_true, hasB_iff, Bool.not_eq_true', ← hasB_iff b, Bool.not_eq_true])
  have e : canon (minusL a b) = minusL a b := (canon_eq (minus_is a b).1 fun n => Iff.rfl).symm
  rw [e] at c0
  refine fn_own Tryz.F36 (Nat.le_of_ble_eq_true rfl) ?_; unfold Tryz.ac36
  repeat' (first
    | (apply Awp.sreg; (case hn => (simp only [List.length_cons, List.length_nil, Nat.reduceAdd] <;> rfl)))
    | (refine st_nil ?_)
    | (apply st_a; (case hc => rfl); (case he => (simp only [go_sem, *] <;> rfl)); (case hu => (simp only [updL_nil, updL_cons] <;> rfl)); (case hp => first | trivial))
    | (apply st_co; (case hc => (simp only [go_sem, *] <;> rfl)); (case hl => (simp only [go_sem, *] <;> rfl)); (case hn => (simp only [go_sem, *] <;> rfl)); (case hp => first | exact c0 | (have hXz := c0; simp only [go_sem, *] at hXz; exact hXz)))
    | (refine Awp.ret ?_; try simp only [go_sem, *]))
  all_goals exact ⟨_, rfl, rfl⟩
def heldL (l : List Sty) (nm : ByteArray) : List Sp := (l.filter (inNm nm)).map fun q => ⟨q.a, q.b⟩
def wetB (t : Int) : Bool := decide (t < 9223372036854775807)
def wetS (t : Int) : Sp := ⟨t, IntKind.i64.wrap (t + 1)⟩
def wetL (F : List Int) : List Sp := (F.filter wetB).map wetS
def wetR (l : List Sty) (nm : ByteArray) : List Sp := wetL (floodL l nm)
theorem heldL_len (l : List Sty) (nm : ByteArray) : (heldL l nm).length ≤ l.length := by
  have := List.length_filter_le (inNm nm) l
  simp [heldL]; omega
theorem wetL_len (F : List Int) : (wetL F).length ≤ F.length := by
  have := List.length_filter_le wetB F
  simp [wetL]; omega
theorem heldL_step (l : List Sty) (nm : ByteArray) (i : Nat) (h : i < l.length) : heldL (l.take (i + 1)) nm = heldL (l.take i) nm ++ (if inNm nm (l.getD i zeroSty) = true then [⟨(l.getD i zeroSty).a, (l.getD i zeroSty).b⟩] else []) := by
  rw [take_snoc l zeroSty i h]
  unfold heldL
  rw [List.filter_append, List.map_append]
  congr 1
  by_cases hp : inNm nm (l.getD i zeroSty) = true
  · rw [if_pos hp, List.filter_cons_of_pos (by exact hp)]; rfl
  · rw [if_neg hp, List.filter_cons_of_neg (by exact hp)]; rfl
theorem wetL_app (F : List Int) (t : Int) : wetL (F ++ [t]) = wetL F ++ (if wetB t = true then [wetS t] else []) := by
  unfold wetL
  rw [List.filter_append, List.map_append]
  congr 1
  by_cases hp : wetB t = true
  · rw [if_pos hp, List.filter_cons_of_pos (by exact hp)]; rfl
  · rw [if_neg hp, List.filter_cons_of_neg (by exact hp)]; rfl
def dryE (l : List Sty) (nm : ByteArray) (w : Sp) : List Sp := minusL (canon (interL (heldL l nm) [w])) (wetR l nm)
theorem dry_eq (l : List Sty) (nm : ByteArray) (w : Sp) : minusL (canon (interL (heldL l nm) [w])) (wetL (floodZ l nm)) = dryE l nm w := by
  unfold dryE
  refine canon_ext (minus_is _ _).1 (minus_is _ _).1 fun n => ?_
  rw [(minus_is _ _).2, (minus_is _ _).2]
  have e : hasS (wetL (floodZ l nm)) n ↔ hasS (wetR l nm) n := by
    unfold hasS wetR
    have hm : ∀ s : Sp, s ∈ wetL (floodZ l nm) ↔ s ∈ wetL (floodL l nm) := fun s => by
      unfold wetL floodZ
      simp only [List.mem_map, List.mem_filter, mem_cs]
    constructor
    · rintro ⟨s, hs, h⟩; exact ⟨s, (hm s).1 hs, h⟩
    · rintro ⟨s, hs, h⟩; exact ⟨s, (hm s).2 hs, h⟩
  rw [e]
theorem wet_snoc (l : List Sp) (t : Int) : sps l ++ [[.v (.int .i64 t), .v (.int .i64 (IntKind.i64.wrap (t + 1)))]] = sps (l ++ [wetS t]) := sps_snoc l (wetS t)
theorem dry_ok (l : List Sty) (nm : ByteArray) (w : Sp) (hl : l.length < 1900) : PureOwn Tryz.prog 18 [.sl (stys l), .v (.string nm), w.av] (sps (dryE l nm w)) 2 30 := by
  rw [← dry_eq]
  refine fn_own Tryz.F18 (Nat.le_of_ble_eq_true rfl) ?_; unfold Tryz.ac18
  repeat' (first
    | (apply Awp.sreg; (case hn => (simp only [List.length_cons, List.length_nil, Nat.reduceAdd] <;> rfl)))
    | (refine st_nil ?_)
    | (apply st_a; (case hc => rfl); (case he => (simp only [go_sem, *] <;> rfl)); (case hu => (simp only [updL_nil, updL_cons] <;> rfl)); (case hp => first | trivial))
    | refine Awp.block ?_
    | refine Awp.seq ?_)
  refine Awp.loop (fun i : Nat => i ≤ l.length) 50 (fun i => mkS [(0, .sl (stys l)), (1, .v (.string nm)), (5, .bp 0 0), (7, .own 1), (8, .own 2), (13, .sl (stys l)), (14, .v (.int .i64 l.length)), (15, .v (.int .i64 i))] [(0, .box w.cells), (1, .row (sps (heldL (l.take i) nm)) 2 30), (2, .row [] 2 30)]) (fun i => l.length - i) 0 (by omega) ?_ ?_
  · refine Ghost.trans (Ghost.name 7 2 30 rfl (by decide)) (Ghost.trans (Ghost.name 8 2 30 rfl (by decide)) ?_)
    have e1 : heldL (l.take 0) nm = [] := rfl
    rw [e1]
    (apply Ghost.mk [(1, 7), (2, 8)] []; (case hdead => rfl); (case hinj => rfl); (case hV => (simp only [go_sem, *]) <;> (repeat' (first | refine And.intro ?_ ?_ | exact View.int (by first | rfl | omega | (simp; done) | (rw [wrap_i64] <;> (try simp only [Int.natCast_add]) <;> omega) | (simp [*]; done)) | exact .bp rfl (by decide) | exact .own rfl (by decide)))); (case hB => (simp only [go_sem, *]) <;> (repeat' (first | refine And.intro ?_ ?_ | exact ⟨_, rfl, BView.boxF rfl⟩ | exact ⟨_, rfl, .rowE (by first | rfl | omega | (simp; done) | (rw [wrap_i64] <;> (try simp only [Int.natCast_add]) <;> omega) | (simp [*]; done))⟩))))
  · intro i hi
    by_cases hlt : i < l.length
    · have hlt' : (i : Int) < l.length := by omega
      have hat := stys_at l i hlt
      have hz : ((l.getD i zeroSty).cells).length = 8 := rfl
      have hst := heldL_step l nm i hlt
      have hln := heldL_len (l.take i) nm
      have htl : (l.take i).length = i := List.length_take_of_le hi
      cases hB : inNm nm (l.getD i zeroSty)
      · rw [hB] at hst
        simp only [Bool.false_eq_true, if_false, List.append_nil] at hst
        unfold inNm at hB
        repeat' (first
    | (apply Awp.sreg; (case hn => (simp only [List.length_cons, List.length_nil, Nat.reduceAdd] <;> rfl)))
    | (refine st_nil ?_)
    | (apply st_a; (case hc => rfl); (case he => (simp only [go_sem, *] <;> rfl)); (case hu => (simp only [updL_nil, updL_cons] <;> rfl)); (case hp => first | trivial | omega))
    | (apply Awp.reg; (case hn => (simp only [List.length_cons, List.length_nil, Nat.reduceAdd] <;> rfl)))
    | (refine Awp.skip ?_; try simp only [go_sem, *])
    | refine Awp.block ?_
    | (apply Awp.cond; (case hc => (simp only [go_sem, *] <;> rfl)); all_goals (intro hg; (try simp only [Bool.not_true, Bool.not_false, reduceCtorEq] at hg)))
    | refine Awp.seq ?_)
        refine ⟨i + 1, by omega, by omega, ?_⟩
        (apply Ghost.mk [] []; (case hdead => rfl); (case hinj => rfl); (case hV => (simp only [go_sem, *]) <;> (repeat' (first | refine And.intro ?_ ?_ | exact View.int (by first | rfl | omega | (simp; done) | (rw [wrap_i64] <;> (try simp only [Int.natCast_add]) <;> omega) | (simp [*]; done)) | exact .bp rfl (by decide) | exact .own rfl (by decide)))); (case hB => (simp only [go_sem, *]) <;> (repeat' (first | refine And.intro ?_ ?_ | exact ⟨_, rfl, BView.boxF rfl⟩ | exact ⟨_, rfl, .rowE (by first | rfl | omega | (simp; done) | (rw [wrap_i64] <;> (try simp only [Int.natCast_add]) <;> omega) | (simp [*]; done))⟩))))
      · rw [hB] at hst
        simp only [if_true] at hst
        unfold inNm at hB
        repeat' (first
    | (apply Awp.sreg; (case hn => (simp only [List.length_cons, List.length_nil, Nat.reduceAdd] <;> rfl)))
    | (refine st_nil ?_)
    | (apply st_a; (case hc => rfl); (case he => (simp only [go_sem, *] <;> rfl)); (case hu => (simp only [updL_nil, updL_cons] <;> rfl)); (case hp => first | trivial | omega | (simp; done) | (simp; omega)))
    | (apply Awp.reg; (case hn => (simp only [List.length_cons, List.length_nil, Nat.reduceAdd] <;> rfl)))
    | (refine Awp.skip ?_; try simp only [go_sem, *])
    | refine Awp.block ?_
    | (apply Awp.cond; (case hc => (simp only [go_sem, *] <;> rfl)); all_goals (intro hg; (try simp only [Bool.not_true, Bool.not_false, reduceCtorEq] at hg)))
    | refine Awp.seq ?_)
        refine ⟨i + 1, by omega, by omega, ?_⟩
        (apply Ghost.mk [(1, 63)] []; (case hdead => rfl); (case hinj => rfl); (case hV => (simp only [go_sem, *]) <;> (repeat' (first | refine And.intro ?_ ?_ | exact View.int (by first | rfl | exact sps_snoc _ ⟨_, _⟩ | omega | (simp; done) | (rw [wrap_i64] <;> (try simp only [Int.natCast_add]) <;> omega) | (simp [*]; done)) | exact .bp rfl (by decide) | exact .own rfl (by decide)))); (case hB => (simp only [go_sem, *]) <;> (repeat' (first | refine And.intro ?_ ?_ | exact ⟨_, rfl, BView.boxF rfl⟩ | exact ⟨_, rfl, .rowE (by first | rfl | exact sps_snoc _ ⟨_, _⟩ | omega | (simp; done) | (rw [wrap_i64] <;> (try simp only [Int.natCast_add]) <;> omega) | (simp [*]; done))⟩))))
    · have hlt' : ¬ (i : Int) < l.length := by omega
      have e1 : l.take i = l := List.take_of_length_le (by omega)
      have c0 := floods_ok l nm (by omega)
      have hFl := floodZ_len l nm
      have hHl := heldL_len l nm
      rw [e1]
      repeat' (first
    | (apply Awp.sreg; (case hn => (simp only [List.length_cons, List.length_nil, Nat.reduceAdd] <;> rfl)))
    | (refine st_nil ?_)
    | (apply st_a; (case hc => rfl); (case he => (simp only [go_sem, *] <;> rfl)); (case hu => (simp only [updL_nil, updL_cons] <;> rfl)); (case hp => first | trivial))
    | (apply st_co; (case hc => (simp only [go_sem, *] <;> rfl)); (case hl => (simp only [go_sem, *] <;> rfl)); (case hn => (simp only [go_sem, *] <;> rfl)); (case hp => first | exact c0 | (have hXz := c0; simp only [go_sem, *] at hXz; exact hXz)))
    | (refine Awp.exit ?_; try simp only [go_sem, *])
    | refine Awp.block ?_
    | (apply Awp.cond; (case hc => (simp only [go_sem, *] <;> rfl)); all_goals (intro hg; (try simp only [Bool.not_true, Bool.not_false, reduceCtorEq] at hg)))
    | refine Awp.seq ?_)
      obtain ⟨F, hF⟩ : ∃ F, floodZ l nm = F := ⟨_, rfl⟩
      obtain ⟨H, hH⟩ : ∃ H, heldL l nm = H := ⟨_, rfl⟩
      rw [hF] at hFl
      rw [hH] at hHl
      rw [hF, hH]
      clear c0 hF hH hlt hlt' e1 hi
      refine Awp.loop (fun i : Nat => i ≤ F.length) 100 (fun i => mkS [(5, .bp 0 0), (7, .own 1), (8, .own 2), (31, .own 3), (32, .v (.int .i64 F.length)), (33, .v (.int .i64 i))] [(0, .box w.cells), (1, .row (sps H) 2 30), (2, .row (sps (wetL (F.take i))) 2 30), (3, .row (ints F) 1 3)]) (fun i => F.length - i) 0 (by omega) ?_ ?_
      · have e1 : wetL (F.take 0) = [] := rfl
        rw [e1]
        (apply Ghost.mk [(3, 53)] []; (case hdead => rfl); (case hinj => rfl); (case hV => (simp only [go_sem, *]) <;> (repeat' (first | refine And.intro ?_ ?_ | exact View.int (by first | rfl | omega | (simp; done) | (rw [wrap_i64] <;> (try simp only [Int.natCast_add]) <;> omega) | (simp [*]; done)) | exact .bp rfl (by decide) | exact .own rfl (by decide)))); (case hB => (simp only [go_sem, *]) <;> (repeat' (first | refine And.intro ?_ ?_ | exact ⟨_, rfl, BView.boxF rfl⟩ | exact ⟨_, rfl, .rowE (by first | rfl | omega | (simp; done) | (rw [wrap_i64] <;> (try simp only [Int.natCast_add]) <;> omega) | (simp [*]; done))⟩))))
      · intro i hi
        by_cases hlt : i < F.length
        · have hlt' : (i : Int) < F.length := by omega
          have hat := ints_at F i hlt
          have hst := wetL_app (F.take i) (F.getD i 0)
          rw [← take_snocI F i hlt] at hst
          have hln := wetL_len (F.take i)
          have htl : (F.take i).length = i := List.length_take_of_le hi
          obtain ⟨t, ht⟩ : ∃ t, F.getD i 0 = t := ⟨_, rfl⟩
          rw [ht] at hat hst
          clear ht
          cases hB : wetB t
          · rw [hB] at hst
            simp only [Bool.false_eq_true, if_false, List.append_nil] at hst
            unfold wetB at hB
            repeat' (first
    | (apply Awp.sreg; (case hn => (simp only [List.length_cons, List.length_nil, Nat.reduceAdd] <;> rfl)))
    | (refine st_nil ?_)
    | (apply st_a; (case hc => rfl); (case he => (simp only [go_sem, *] <;> rfl)); (case hu => (simp only [updL_nil, updL_cons] <;> rfl)); (case hp => first | trivial | omega))
    | (apply Awp.reg; (case hn => (simp only [List.length_cons, List.length_nil, Nat.reduceAdd] <;> rfl)))
    | (refine Awp.skip ?_; try simp only [go_sem, *])
    | refine Awp.block ?_
    | (apply Awp.cond; (case hc => (simp only [go_sem, *] <;> rfl)); all_goals (intro hg; (try simp only [Bool.not_true, Bool.not_false, reduceCtorEq] at hg)))
    | refine Awp.seq ?_)
            refine ⟨i + 1, by omega, by omega, ?_⟩
            (apply Ghost.mk [] []; (case hdead => rfl); (case hinj => rfl); (case hV => (simp only [go_sem, *]) <;> (repeat' (first | refine And.intro ?_ ?_ | exact View.int (by first | rfl | omega | (simp; done) | (rw [wrap_i64] <;> (try simp only [Int.natCast_add]) <;> omega) | (simp [*]; done)) | exact .bp rfl (by decide) | exact .own rfl (by decide)))); (case hB => (simp only [go_sem, *]) <;> (repeat' (first | refine And.intro ?_ ?_ | exact ⟨_, rfl, BView.boxF rfl⟩ | exact ⟨_, rfl, .rowE (by first | rfl | omega | (simp; done) | (rw [wrap_i64] <;> (try simp only [Int.natCast_add]) <;> omega) | (simp [*]; done))⟩))))
          · rw [hB] at hst
            simp only [if_true] at hst
            unfold wetB at hB
            repeat' (first
    | (apply Awp.sreg; (case hn => (simp only [List.length_cons, List.length_nil, Nat.reduceAdd] <;> rfl)))
    | (refine st_nil ?_)
    | (apply st_a; (case hc => rfl); (case he => (simp only [go_sem, *] <;> rfl)); (case hu => (simp only [updL_nil, updL_cons] <;> rfl)); (case hp => first | trivial | omega | (simp; done) | (simp; omega)))
    | (apply Awp.reg; (case hn => (simp only [List.length_cons, List.length_nil, Nat.reduceAdd] <;> rfl)))
    | (refine Awp.skip ?_; try simp only [go_sem, *])
    | refine Awp.block ?_
    | (apply Awp.cond; (case hc => (simp only [go_sem, *] <;> rfl)); all_goals (intro hg; (try simp only [Bool.not_true, Bool.not_false, reduceCtorEq] at hg)))
    | refine Awp.seq ?_)
            refine ⟨i + 1, by omega, by omega, ?_⟩
            (apply Ghost.mk [(2, 112)] []; (case hdead => rfl); (case hinj => rfl); (case hV => (simp only [go_sem, *]) <;> (repeat' (first | refine And.intro ?_ ?_ | exact View.int (by first | rfl | exact wet_snoc _ _ | omega | (simp; done) | (rw [wrap_i64] <;> (try simp only [Int.natCast_add]) <;> omega) | (simp [*]; done)) | exact .bp rfl (by decide) | exact .own rfl (by decide)))); (case hB => (simp only [go_sem, *]) <;> (repeat' (first | refine And.intro ?_ ?_ | exact ⟨_, rfl, BView.boxF rfl⟩ | exact ⟨_, rfl, .rowE (by first | rfl | exact wet_snoc _ _ | omega | (simp; done) | (rw [wrap_i64] <;> (try simp only [Int.natCast_add]) <;> omega) | (simp [*]; done))⟩))))
        · have hlt' : ¬ (i : Int) < F.length := by omega
          have e1 : F.take i = F := List.take_of_length_le (by omega)
          have hWl := wetL_len F
          have hIl : (canon (interL H [w])).length < 2000 := by
            have := canon_len (interL H [w])
            rw [inter_len] at this
            simp at this; omega
          have c1 := ginter_ok H [w] (by omega) (by simp)
          have c2 := gminus_ok (canon (interL H [w])) (wetL F) hIl (by omega)
          have hw := sps_one1 w
          rw [e1]
          repeat' (first
    | (apply Awp.sreg; (case hn => (simp only [List.length_cons, List.length_nil, Nat.reduceAdd] <;> rfl)))
    | (refine st_nil ?_)
    | (apply st_a; (case hc => rfl); (case he => (simp only [go_sem, *] <;> rfl)); (case hu => (simp only [updL_nil, updL_cons] <;> rfl)); (case hp => first | trivial | (simp; done)))
    | (apply st_cod; (case hc => (simp only [go_sem, *] <;> rfl)); (case hl => (simp only [go_sem, *] <;> rfl)); (case hn => (simp only [go_sem, *] <;> rfl)); (case hp => first | exact c1 | (have hXz := c1; simp only [go_sem, *] at hXz; exact hXz)); (case hd => first | exact sps_dry _ | exact ints_dry _ | (repeat' (first | exact Dry.v _ | exact Dry.any | exact Dry.nils | exact Dry.slE | refine Dry.agg ?_ | refine Dry.tup ?_ | (refine List.forall_mem_cons.2 (And.intro ?_ ?_)) | (intro cQ hQ; cases hQ; done)))); (case hm => first | decide | (simp; done)))
    | (apply st_cod; (case hc => (simp only [go_sem, *] <;> rfl)); (case hl => (simp only [go_sem, *] <;> rfl)); (case hn => (simp only [go_sem, *] <;> rfl)); (case hp => first | exact c2 | (have hXz := c2; simp only [go_sem, *] at hXz; exact hXz)); (case hd => first | exact sps_dry _ | exact ints_dry _ | (repeat' (first | exact Dry.v _ | exact Dry.any | exact Dry.nils | exact Dry.slE | refine Dry.agg ?_ | refine Dry.tup ?_ | (refine List.forall_mem_cons.2 (And.intro ?_ ?_)) | (intro cQ hQ; cases hQ; done)))); (case hm => first | decide | (simp; done)))
    | (refine Awp.ret ?_; try simp only [go_sem, *])
    | (refine Awp.exit ?_; try simp only [go_sem, *])
    | (apply Awp.cond; (case hc => (simp only [go_sem, *] <;> rfl)); all_goals (intro hg; (try simp only [Bool.not_true, Bool.not_false, reduceCtorEq] at hg)))
    | refine Awp.seq ?_)
          exact ⟨_, rfl, rfl⟩
end Go.Proofs
end
section
set_option linter.unusedVariables false
set_option linter.unusedSimpArgs false
namespace Go.Proofs
open Go Go.Ab
set_option maxHeartbeats 8000000
set_option maxRecDepth 100000
set_option linter.unusedSimpArgs false
set_option linter.unusedVariables false
attribute [local irreducible] Awp aops aopsL Go.Ab.Pure PureOwn
theorem delay_two (bs : List By) (l : List Sty) (hull : ByteArray) (h : Int) (n : Nat) (hb : bs.length < 90000) (hl : l.length < 80000) (hC : dockE bs l = 0) (hn : idxF (hullB hull) l = n) (hnl : n < l.length) (hR : (!(decide (0 ≤ h) && decide (h ≤ 1048576))) = false) (hDE : dockE bs (delayL l n h) = 0) :
    PureTwo Tryz.prog 22 [.sl (bys bs), .sl (stys l), .v (.string hull), .v (.int .i64 h)] (stys (delayL l n h)) 8 43 (.int .i64 0) := by
  have c0 := dcheck_ok bs l (by omega) (by omega)
  have c2 := indexK_ok l 48 [.v (.string hull)] (hullB hull) (by omega) (delC_ok hull)
  rw [hC] at c0
  rw [hn] at c2
  have hn0 : ¬ (n : Int) < 0 := by omega
  clear hn
  have hDl := delayL_len l n h
  have hDa := delayL_at l n h
  obtain ⟨D, hD⟩ : ∃ D, delayL l n h = D := ⟨_, rfl⟩
  have h1 := stys_one l
  have hpos : 0 < l.length := by omega
  rw [hD] at hDl hDa hDE ⊢
  have c3 := dcheck_ok bs D (by omega) (by omega)
  refine fn_two Tryz.F22 (Nat.le_of_ble_eq_true rfl) ?_; unfold Tryz.ac22
  repeat' (first
    | (apply Awp.sreg; (case hn => (simp only [List.length_cons, List.length_nil, Nat.reduceAdd] <;> rfl)))
    | (refine st_nil ?_)
    | (apply st_a; (case hc => rfl); (case he => (simp only [go_sem, *] <;> rfl)); (case hu => (simp only [updL_nil, updL_cons] <;> rfl)); (case hp => first | trivial | omega | (simp; omega)))
    | (apply st_c; (case hc => (simp only [go_sem, *] <;> rfl)); (case hl => (simp only [go_sem, *] <;> rfl)); (case hn => (simp only [go_sem, *] <;> rfl)); (case hp => first | exact c0 | (have hXz := c0; simp only [go_sem, *] at hXz; exact hXz)))
    | (apply st_cd; (case hc => (simp only [go_sem, *] <;> rfl)); (case hl => (simp only [go_sem, *] <;> rfl)); (case hn => (simp only [go_sem, *] <;> rfl)); (case hp => first | exact c2 | (have hXz := c2; simp only [go_sem, *] at hXz; exact hXz)); (case hd => first | exact .v _ | exact .any | exact .nils | (repeat' (first | exact Dry.v _ | exact Dry.any | exact Dry.nils | exact Dry.slE | refine Dry.agg ?_ | refine Dry.tup ?_ | (refine List.forall_mem_cons.2 (And.intro ?_ ?_)) | (intro cQ hQ; cases hQ; done)))); (case hm => first | decide | (simp; done)))
    | (apply st_c; (case hc => (simp only [go_sem, *] <;> rfl)); (case hl => (simp only [go_sem, *] <;> rfl)); (case hn => (simp only [go_sem, *] <;> rfl)); (case hp => first | exact from_ok _ _ _ | (have hXz := from_ok _ _ _; simp only [go_sem, *] at hXz; exact hXz)))
    | (refine Awp.skip ?_; try simp only [go_sem, *])
    | refine Awp.block ?_
    | (apply Awp.cond; (case hc => (simp only [go_sem, *] <;> rfl)); all_goals (intro hg; (try simp only [Bool.not_true, Bool.not_false, reduceCtorEq] at hg)))
    | refine Awp.seq ?_)
  clear c0 c2 hR
  refine Awp.loop (fun i : Nat => i ≤ l.length) 100 (fun i => mkS [(0, .sl (bys bs)), (1, .sl (stys l)), (3, .v (.int .i64 h)), (11, .v (.int .i64 n)), (12, .own 0), (35, .sl (stys l)), (36, .v (.int .i64 l.length)), (37, .v (.int .i64 i))] [(0, .row (stys (mixL D l i)) 8 43)]) (fun i => l.length - i) 0 (by omega) ?_ ?_
  · have e1 : mixL D l 0 = l := by simp [mixL]
    rw [e1]
    (apply Ghost.mk [(0, 20)] []; (case hdead => rfl); (case hinj => rfl); (case hV => (simp only [go_sem, *]) <;> (repeat' (first | refine And.intro ?_ ?_ | exact View.int (by first | rfl | omega | (simp; done) | (rw [wrap_i64] <;> (try simp only [Int.natCast_add]) <;> omega) | (simp [*]; done)) | exact .own rfl (by decide)))); (case hB => (simp only [go_sem, *]) <;> (repeat' (first | exact ⟨_, rfl, .rowE (by first | rfl | omega | (simp; done) | (rw [wrap_i64] <;> (try simp only [Int.natCast_add]) <;> omega) | (simp [*]; done))⟩))))
  · intro i hi
    by_cases hlt : i < l.length
    · have hlt' : (i : Int) < l.length := by omega
      have hat := stys_at l i hlt
      have hatn := stys_at l n hnl
      have hz : ((l.getD i zeroSty).cells).length = 8 := rfl
      have hzn : ((l.getD n zeroSty).cells).length = 8 := rfl
      have hnl' : (n : Int) < l.length := by omega
      have hml := mix_len D l i hDl hi
      have hma : (stys (mixL D l i)).getD i [] = (l.getD i zeroSty).cells := by rw [stys_at _ _ (by omega), mix_at D l i hDl hlt]
      have hdi := hDa i hlt
      have hst := mix_step D l i hDl hlt
      have hsame := mix_same D l i hDl hlt
      rw [hdi] at hst hsame
      unfold movB at hst hsame
      clear hD hdi hDa
      generalize l.getD n zeroSty = z at *
      generalize l.getD i zeroSty = q at *
      cases hB : ((q.bay.toList == z.bay.toList) && (q.b == z.b))
      · have e2 := hsame (by rw [hB]; rfl)
        clear hsame hst
        repeat' (first
    | (apply Awp.sreg; (case hn => (simp only [List.length_cons, List.length_nil, Nat.reduceAdd] <;> rfl)))
    | (apply Awp.sdraw; (case hn => (simp only [List.length_cons, List.length_nil, Nat.reduceAdd] <;> rfl)))
    | (refine st_nil ?_)
    | (apply st_a; (case hc => rfl); (case he => (simp only [go_sem, *] <;> rfl)); (case hu => (simp only [updL_nil, updL_cons] <;> rfl)); (case hp => first | trivial | omega | (simp; done)))
    | (apply Awp.reg; (case hn => (simp only [List.length_cons, List.length_nil, Nat.reduceAdd] <;> rfl)))
    | (refine Awp.skip ?_; try simp only [go_sem, *])
    | refine Awp.block ?_
    | (apply Awp.cond; (case hc => (simp only [go_sem, *] <;> rfl)); all_goals (intro hg; (try simp only [Bool.not_true, Bool.not_false, reduceCtorEq] at hg)))
    | refine Awp.seq ?_
    | (apply sl_a; (case hc => rfl); (case he => (simp only [go_sem, *] <;> rfl)); (case hu => (simp only [updL_nil, updL_cons] <;> rfl)); (case hl => (simp only [List.map_cons, List.map_nil] <;> rfl)); (case hp => first | trivial | omega))
    | (apply sl_gn; (case hv => (simp only [go_sem, *] <;> rfl)); (case hbw => rfl))
    | (apply sl_ga; (case hb => rfl); (case hv => (simp only [go_sem, *] <;> rfl)); (case he => (simp only [go_sem, *] <;> rfl)); (case hu => (simp only [updL_nil, updL_cons] <;> rfl)); (case hl => (simp only [List.map_cons, List.map_nil] <;> rfl)); (case hp => first | trivial | omega))
    | (apply sl_case; (case hv => (simp only [go_sem, *] <;> rfl)); all_goals (intro hg; (try simp only [Bool.not_true, Bool.not_false, reduceCtorEq] at hg)))
    | (refine sl_nil (And.intro (by first | exact drawOk_of (by decide +kernel) | (simp only [List.map_cons, List.map_nil]; exact drawOk_of (by decide +kernel)) | decide) ?_)))
        all_goals first
          | (refine ⟨i + 1, by omega, by omega, ?_⟩
             (apply Ghost.mk [] []; (case hdead => rfl); (case hinj => rfl); (case hV => (simp only [go_sem, *]) <;> (repeat' (first | refine And.intro ?_ ?_ | exact View.int (by first | rfl | omega | (simp; done) | (rw [wrap_i64] <;> (try simp only [Int.natCast_add]) <;> omega) | (simp [*]; done)) | exact .own rfl (by decide)))); (case hB => (simp only [go_sem, *]) <;> (repeat' (first | exact ⟨_, rfl, .rowE (by first | rfl | omega | (simp; done) | (rw [wrap_i64] <;> (try simp only [Int.natCast_add]) <;> omega) | (simp [*]; done))⟩)))))
          | (exfalso; simp only [Bool.and_true, Bool.true_and, Bool.and_false, Bool.false_and, reduceCtorEq, *] at hB; done)
      · rw [hB] at hst
        simp only [if_true] at hst
        have hfin : (stys (mixL D l i)).set i [.v (.string q.item), .v (.string q.bay), .v (.int .i64 q.x), .v (.int .i64 q.y), .v (.int .i64 q.len), .v (.int .i64 q.wid), .v (.int .i64 q.a), .v (.int .i64 (IntKind.i64.wrap (q.b + h)))] = stys (mixL D l (i + 1)) := by
          rw [hst]; exact stys_set _ _ ⟨q.item, q.bay, q.x, q.y, q.len, q.wid, q.a, IntKind.i64.wrap (q.b + h)⟩
        clear hsame hst
        repeat' (first
    | (apply Awp.sreg; (case hn => (simp only [List.length_cons, List.length_nil, Nat.reduceAdd] <;> rfl)))
    | (apply Awp.sdraw; (case hn => (simp only [List.length_cons, List.length_nil, Nat.reduceAdd] <;> rfl)))
    | (refine st_nil ?_)
    | (apply st_a; (case hc => rfl); (case he => (simp only [go_sem, *] <;> rfl)); (case hu => (simp only [updL_nil, updL_cons] <;> rfl)); (case hp => first | trivial | omega | (simp; done)))
    | (apply Awp.reg; (case hn => (simp only [List.length_cons, List.length_nil, Nat.reduceAdd] <;> rfl)))
    | (refine Awp.skip ?_; try simp only [go_sem, *])
    | refine Awp.block ?_
    | (apply Awp.cond; (case hc => (simp only [go_sem, *] <;> rfl)); all_goals (intro hg; (try simp only [Bool.not_true, Bool.not_false, reduceCtorEq] at hg)))
    | refine Awp.seq ?_
    | (apply sl_a; (case hc => rfl); (case he => (simp only [go_sem, *] <;> rfl)); (case hu => (simp only [updL_nil, updL_cons] <;> rfl)); (case hl => (simp only [List.map_cons, List.map_nil] <;> rfl)); (case hp => first | trivial | omega))
    | (apply sl_gn; (case hv => (simp only [go_sem, *] <;> rfl)); (case hbw => rfl))
    | (apply sl_ga; (case hb => rfl); (case hv => (simp only [go_sem, *] <;> rfl)); (case he => (simp only [go_sem, *] <;> rfl)); (case hu => (simp only [updL_nil, updL_cons] <;> rfl)); (case hl => (simp only [List.map_cons, List.map_nil] <;> rfl)); (case hp => first | trivial | omega))
    | (apply sl_case; (case hv => (simp only [go_sem, *] <;> rfl)); all_goals (intro hg; (try simp only [Bool.not_true, Bool.not_false, reduceCtorEq] at hg)))
    | (refine sl_nil (And.intro (by first | exact drawOk_of (by decide +kernel) | (simp only [List.map_cons, List.map_nil]; exact drawOk_of (by decide +kernel)) | decide) ?_)))
        all_goals first
          | (refine ⟨i + 1, by omega, by omega, ?_⟩
             (apply Ghost.mk [] []; (case hdead => rfl); (case hinj => rfl); (case hV => (simp only [go_sem, *]) <;> (repeat' (first | refine And.intro ?_ ?_ | exact View.int (by first | rfl | omega | (simp; done) | (rw [wrap_i64] <;> (try simp only [Int.natCast_add]) <;> omega) | (simp [*]; done)) | exact .own rfl (by decide)))); (case hB => (simp only [go_sem, *]) <;> (repeat' (first | exact ⟨_, rfl, .rowE (by first | rfl | omega | (simp; done) | (rw [wrap_i64] <;> (try simp only [Int.natCast_add]) <;> omega) | (simp [*]; done))⟩)))))
          | (exfalso; simp only [Bool.and_true, Bool.true_and, Bool.and_false, Bool.false_and, reduceCtorEq, *] at hB; done)
    · have hlt' : ¬ (i : Int) < l.length := by omega
      have e1 : mixL D l i = D := by
        unfold mixL
        rw [List.take_of_length_le (by omega), List.drop_eq_nil_of_le (by omega), List.append_nil]
      rw [e1]
      clear hD hDa
      rw [hDE] at c3
      repeat' (first
    | (apply Awp.sreg; (case hn => (simp only [List.length_cons, List.length_nil, Nat.reduceAdd] <;> rfl)))
    | (refine st_nil ?_)
    | (apply st_a; (case hc => rfl); (case he => (simp only [go_sem, *] <;> rfl)); (case hu => (simp only [updL_nil, updL_cons] <;> rfl)); (case hp => first | trivial))
    | (apply st_cd; (case hc => (simp only [go_sem, *] <;> rfl)); (case hl => (simp only [go_sem, *] <;> rfl)); (case hn => (simp only [go_sem, *] <;> rfl)); (case hp => first | exact c3 | (have hXz := c3; simp only [go_sem, *] at hXz; exact hXz)); (case hd => first | exact .v _ | exact .any | exact .nils | (repeat' (first | exact Dry.v _ | exact Dry.any | exact Dry.nils | exact Dry.slE | refine Dry.agg ?_ | refine Dry.tup ?_ | (refine List.forall_mem_cons.2 (And.intro ?_ ?_)) | (intro cQ hQ; cases hQ; done)))); (case hm => first | decide | (simp; done)))
    | (refine Awp.ret ?_; try simp only [go_sem, *])
    | (refine Awp.skip ?_; try simp only [go_sem, *])
    | (refine Awp.exit ?_; try simp only [go_sem, *])
    | (apply Awp.cond; (case hc => (simp only [go_sem, *] <;> rfl)); all_goals (intro hg; (try simp only [Bool.not_true, Bool.not_false, reduceCtorEq] at hg)))
    | refine Awp.seq ?_)
      exact ⟨0, rfl, rfl⟩
def nD : ByteArray := ⟨⟨[68]⟩⟩
def nH1 : ByteArray := ⟨⟨[72, 49]⟩⟩
def nH2 : ByteArray := ⟨⟨[72, 50]⟩⟩
def exD : List By := [⟨nD, 300, 50⟩]
def exH : Sty := ⟨nH1, nD, 0, 0, 200, 30, 0, 100⟩
def exX : Sty := ⟨nH2, ⟨⟨[]⟩⟩, 0, 0, 100, 30, 20, 0⟩
def exA : Sty := ⟨nH2, nD, 200, 0, 100, 30, 20, 100⟩
def exB : Sty := ⟨nH2, nD, 0, 0, 100, 30, 100, 190⟩
def exS : Sty := ⟨nH2, nD, 200, 0, 100, 30, 20, 80⟩
theorem sortI_ins : sortI = isortI := sortZ_ins
theorem exFit1 : fitH exD [exH] exX 60 (fitP exD [exH] exX 60) = (exA, 0) := by
  delta fitH fitP tryD tryP startsZ placeD xsD ysD dockE
  rw [sortI_ins]
  kernel_rfl
theorem exFit2 : fitH exD [exH] exX 90 (fitP exD [exH] exX 90) = (exB, 0) := by
  delta fitH fitP tryD tryP startsZ placeD xsD ysD dockE
  rw [sortI_ins]
  kernel_rfl
theorem exDel : delayL [exH, exA] 0 10 = [⟨nH1, nD, 0, 0, 200, 30, 0, 110⟩, ⟨nH2, nD, 200, 0, 100, 30, 20, 110⟩] := by kernel_rfl
theorem exC : dockE exD [exH, exS] = 14 := by kernel_rfl
theorem exF : floodZ [exH, exA] nD = [100] := by
  delta floodZ
  rw [sortI_ins]
  kernel_rfl
theorem exDry : dryE [exH, exA, exB] nD ⟨10, 120⟩ = [⟨10, 100⟩, ⟨101, 120⟩] := by kernel_rfl
theorem stys_one1 (a : Sty) : stys [a] = [a.cells] := rfl
theorem stys_two (a b : Sty) : stys [a, b] = [a.cells, b.cells] := rfl
theorem stys_three (a b c : Sty) : stys [a, b, c] = [a.cells, b.cells, c.cells] := rfl
theorem sps_two (a b : Sp) : sps [a, b] = [a.cells, b.cells] := rfl
theorem bys_ex : bys exD = [[.v (.string nD), .v (.int .i64 300), .v (.int .i64 50)]] := rfl
theorem alive_ok : Pure Tryz.prog 11 [] (.v (.bool true)) := by
  have c1 := fit_ok exD [exH] exX 60 (by decide) (by decide)
  have c2 := fit_ok exD [exH] exX 90 (by decide) (by decide)
  have c3 := delay_two exD [exH, exA] nH1 10 0 (by decide) (by decide) (by kernel_rfl) (by kernel_rfl) (by decide) (by decide) (by kernel_rfl)
  have c4 := dcheck_ok exD [exH, exS] (by decide) (by decide)
  have c5 := floods_ok [exH, exA] nD (by decide)
  have c6 := dry_ok [exH, exA, exB] nD ⟨10, 120⟩ (by decide)
  have c7 := sameI_ok [100] (by decide)
  have c8 := same_ok [⟨10, 100⟩, ⟨101, 120⟩] (by decide)
  rw [exFit1] at c1; rw [exFit2] at c2; rw [exDel] at c3; rw [exC] at c4; rw [exF] at c5; rw [exDry] at c6
  have e1 : ∀ n : Int, (n == n) = true := by simp
  rw [bys_ex] at *
  have hi1 : ints [100] = [[.v (.int .i64 100)]] := rfl
  rw [hi1] at *
  clear hi1
  simp only [stys_one1, stys_two, stys_three, sps_two] at *
  unfold exH exX exA exB exS nD nH1 nH2 at *
  simp only [Sty.av, Sty.cells, Sp.cells, Sp.av] at *
  refine fn_pure Tryz.F11 (Nat.le_of_ble_eq_true rfl) ?_; unfold Tryz.ac11
  repeat' (first
    | (apply Awp.sreg; (case hn => (simp only [List.length_cons, List.length_nil, Nat.reduceAdd] <;> rfl)))
    | (refine st_nil ?_)
    | (apply st_full (d := some 16); (case hr => (simp only [go_sem, *] <;> rfl)); (case hn => (simp; done)); (case hp => (first | (simp; done))))
    | (apply st_full (d := some 13); (case hr => (simp only [go_sem, *] <;> rfl)); (case hn => (simp; done)); (case hp => (first | (simp; done))))
    | (apply st_a; (case hc => rfl); (case he => (simp only [go_sem, *] <;> rfl)); (case hu => (simp only [updL_nil, updL_cons] <;> rfl)); (case hp => first | trivial | (simp; done)))
    | (apply st_m; (case hc => rfl); (case hg => (simp only [go_sem, *] <;> rfl)); (case he => (intro hQz; (try simp only [wantB_t, wantB_f, Bool.and_eq_true, Bool.not_eq_true', Bool.not_true, Bool.not_false, and_true, true_and] at hQz); simp only [go_sem, *] <;> rfl)); (case hp => (intro hQz; (try simp only [wantB_t, wantB_f, Bool.and_eq_true, Bool.not_eq_true', Bool.or_eq_false_iff, decide_eq_true_eq, decide_eq_false_iff_not, beq_iff_eq, beq_eq_false_iff_ne, bne_iff_ne, bne_eq_false_iff_eq, Int.not_lt, Int.not_le, Int.ofNat_lt, Int.ofNat_le] at hQz); first | trivial)))
    | (apply st_c; (case hc => (simp only [go_sem, *] <;> rfl)); (case hl => (simp only [go_sem, *] <;> rfl)); (case hn => (simp only [go_sem, *] <;> rfl)); (case hp => first | exact c1 | (have hXz := c1; simp only [go_sem, *] at hXz; exact hXz)))
    | (apply st_c; (case hc => (simp only [go_sem, *] <;> rfl)); (case hl => (simp only [go_sem, *] <;> rfl)); (case hn => (simp only [go_sem, *] <;> rfl)); (case hp => first | exact c2 | (have hXz := c2; simp only [go_sem, *] at hXz; exact hXz)))
    | (apply st_ct; (case hc => (simp only [go_sem, *] <;> rfl)); (case hl => (simp only [go_sem, *] <;> rfl)); (case hn => (simp only [go_sem, *] <;> rfl)); (case hp => first | exact c3 | (have hXz := c3; simp only [go_sem, *] at hXz; exact hXz)); (case hd => first | exact .inl rfl | (refine .inr ?_; first | exact sps_dry _ | exact ints_dry _ | exact stys_dry _ | (repeat' (first | exact Dry.v _ | exact Dry.any | exact Dry.nils | exact Dry.slE | refine Dry.agg ?_ | refine Dry.tup ?_ | (refine List.forall_mem_cons.2 (And.intro ?_ ?_)) | (intro cQ hQ; cases hQ; done))))); (case hm => first | decide | (simp; done)))
    | (apply st_cd; (case hc => (simp only [go_sem, *] <;> rfl)); (case hl => (simp only [go_sem, *] <;> rfl)); (case hn => (simp only [go_sem, *] <;> rfl)); (case hp => first | exact c4 | (have hXz := c4; simp only [go_sem, *] at hXz; exact hXz)); (case hd => first | exact .v _ | exact .any | exact .nils | (repeat' (first | exact Dry.v _ | exact Dry.any | exact Dry.nils | exact Dry.slE | refine Dry.agg ?_ | refine Dry.tup ?_ | (refine List.forall_mem_cons.2 (And.intro ?_ ?_)) | (intro cQ hQ; cases hQ; done)))); (case hm => first | decide | (simp; done)))
    | (apply st_cod; (case hc => (simp only [go_sem, *] <;> rfl)); (case hl => (simp only [go_sem, *] <;> rfl)); (case hn => (simp only [go_sem, *] <;> rfl)); (case hp => first | exact c5 | (have hXz := c5; simp only [go_sem, *] at hXz; exact hXz)); (case hd => first | exact sps_dry _ | exact ints_dry _ | (repeat' (first | exact Dry.v _ | exact Dry.any | exact Dry.nils | exact Dry.slE | refine Dry.agg ?_ | refine Dry.tup ?_ | (refine List.forall_mem_cons.2 (And.intro ?_ ?_)) | (intro cQ hQ; cases hQ; done)))); (case hm => first | decide | (simp; done)))
    | (apply st_cod; (case hc => (simp only [go_sem, *] <;> rfl)); (case hl => (simp only [go_sem, *] <;> rfl)); (case hn => (simp only [go_sem, *] <;> rfl)); (case hp => first | exact c6 | (have hXz := c6; simp only [go_sem, *] at hXz; exact hXz)); (case hd => first | exact sps_dry _ | exact ints_dry _ | (repeat' (first | exact Dry.v _ | exact Dry.any | exact Dry.nils | exact Dry.slE | refine Dry.agg ?_ | refine Dry.tup ?_ | (refine List.forall_mem_cons.2 (And.intro ?_ ?_)) | (intro cQ hQ; cases hQ; done)))); (case hm => first | decide | (simp; done)))
    | (apply st_cd; (case hc => (simp only [go_sem, *] <;> rfl)); (case hl => (simp only [go_sem, *] <;> rfl)); (case hn => (simp only [go_sem, *] <;> rfl)); (case hp => first | exact c7 | (have hXz := c7; simp only [go_sem, *] at hXz; exact hXz)); (case hd => first | exact .v _ | exact .any | exact .nils | (repeat' (first | exact Dry.v _ | exact Dry.any | exact Dry.nils | exact Dry.slE | refine Dry.agg ?_ | refine Dry.tup ?_ | (refine List.forall_mem_cons.2 (And.intro ?_ ?_)) | (intro cQ hQ; cases hQ; done)))); (case hm => first | decide | (simp; done)))
    | (apply st_cd; (case hc => (simp only [go_sem, *] <;> rfl)); (case hl => (simp only [go_sem, *] <;> rfl)); (case hn => (simp only [go_sem, *] <;> rfl)); (case hp => first | exact c8 | (have hXz := c8; simp only [go_sem, *] at hXz; exact hXz)); (case hd => first | exact .v _ | exact .any | exact .nils | (repeat' (first | exact Dry.v _ | exact Dry.any | exact Dry.nils | exact Dry.slE | refine Dry.agg ?_ | refine Dry.tup ?_ | (refine List.forall_mem_cons.2 (And.intro ?_ ?_)) | (intro cQ hQ; cases hQ; done)))); (case hm => first | decide | (simp; done)))
    | (apply st_g; (case hv => (simp only [go_sem, *] <;> rfl)); all_goals (intro hg; (try simp only [Bool.not_true, Bool.not_false, reduceCtorEq] at hg)))
    | (refine Awp.ret ?_; try simp only [go_sem, *])
    | (refine Awp.skip ?_; try simp only [go_sem, *])
    | (apply Awp.cond; (case hc => (simp only [go_sem, *] <;> rfl)); all_goals (intro hg; (try simp only [Bool.not_true, Bool.not_false, reduceCtorEq] at hg)))
    | refine Awp.seq ?_)
  all_goals first | exact Lower.bool rfl | (exfalso; exact absurd hg (by decide +kernel)) | (exfalso; clear c1 c2 c3 c4 c5 c6 c7 c8; simp_all; done)
end Go.Proofs
end
section
set_option linter.unusedVariables false
set_option linter.unusedSimpArgs false
namespace Go.Proofs
open Go Go.Ab
set_option linter.unusedSimpArgs false
set_option linter.unusedVariables false
theorem fs_congr {α β : Type} {f g : α → Option β} : ∀ {l : List α}, (∀ a ∈ l, f a = g a) → l.findSome? f = l.findSome? g
  | [], _ => rfl
  | a :: l, h => by
    rw [List.findSome?_cons, List.findSome?_cons, h a (by simp), fs_congr fun b hb => h b (by simp [hb])]
theorem fs_none {α β : Type} {f : α → Option β} {l : List α} (h : ∀ a ∈ l, f a = none) : l.findSome? f = none := by
  rw [List.findSome?_eq_none_iff]; exact h
theorem fs_two {β : Type} {f g : Int → Option β} {S R : List Int} (hS : S.Pairwise (· < ·)) (hR : R.Pairwise (· < ·)) (hsub : ∀ e ∈ R, e ∈ S) (hfg : ∀ e ∈ S, f e = g e)
    (red : ∀ e ∈ S, (g e).isSome = true → ∃ e' ∈ R, e' ≤ e ∧ (g e').isSome = true) : S.findSome? f = R.findSome? g := by
  rw [fs_congr hfg]
  have hS' : S.Pairwise (· ≤ ·) := hS.imp fun h => Int.le_of_lt h
  have hR' : R.Pairwise (· ≤ ·) := hR.imp fun h => Int.le_of_lt h
  cases hB : S.findSome? g with
  | none =>
    rw [List.findSome?_eq_none_iff] at hB
    rw [fs_none fun e he => hB e (hsub e he)]
  | some o =>
    obtain ⟨x, hx, hgx, hmin⟩ := fs_asc hS' hB
    obtain ⟨e', he', hle, hs'⟩ := red x hx (by rw [hgx]; rfl)
    have h1 := hmin e' (hsub e' he') hs'
    have h2 : e' = x := by omega
    subst h2
    cases hC : R.findSome? g with
    | none =>
      rw [List.findSome?_eq_none_iff] at hC
      rw [hC e' he'] at hs'; cases hs'
    | some o' =>
      obtain ⟨y, hy, hgy, hminy⟩ := fs_asc hR' hC
      have h3 := hminy e' he' hs'
      have h4 := hmin y (hsub y hy) (by rw [hgy]; rfl)
      have h5 : y = e' := by omega
      subst h5
      rw [← hgx, hgy]
theorem mem_endsL (l : List Sty) (fr e : Int) : e ∈ endsL l fr ↔ e = fr ∨ ∃ b ∈ l, fr < b.b ∧ b.b = e := by
  unfold endsL
  simp only [List.mem_cons, List.mem_map, List.mem_filter, decide_eq_true_eq, and_assoc]
theorem mem_startsZ (l : List Sty) (fr e : Int) : e ∈ startsZ l fr ↔ e = fr ∨ ∃ b ∈ l, fr < b.b ∧ b.b = e := by
  unfold startsZ
  rw [mem_cs, mem_endsL]
theorem mem_endsC (l : List Sty) (d : By) (fr e : Int) : e ∈ endsC l d fr ↔ e = fr ∨ ∃ b ∈ l, b.bay.toList = d.nm.toList ∧ fr < b.b ∧ b.b = e := by
  unfold endsC
  rw [mem_cs]
  unfold endsD endD
  simp only [List.mem_cons, List.mem_map, List.mem_filter, Bool.and_eq_true, beq_iff_eq, decide_eq_true_eq, and_assoc]
theorem atD_late {bs : List By} {l : List Sty} {x : Sty} (h : 1048576 < x.b) : atD bs l x = none := by
  unfold atD
  cases hs : scanE (atOk bs l x) (Lib.compact (sortI (ysA l x))) (Lib.compact (sortI (xsA l x))) with
  | none => rfl
  | some o =>
    exfalso
    have h1 := scanE_some hs
    unfold atOk at h1
    rw [beq_iff_eq] at h1
    obtain ⟨hb, _, hg, _⟩ := (checkE_iff bs _).1 ((dockE_iff bs _).1 h1).1
    have := good_box hb (hg (x.at_ o.1 o.2) (by simp))
    simp only [Sty.at_] at this
    omega
structure Call (bs : List By) (l : List Sty) (x : Sty) (h : Int) : Prop where
  ok : dockE bs l = 0
  id : idB x.item = true
  new : l.any (hullB x.item) = false
  rng : fitB x h = false
  room : ¬ (128 : Int) ≤ l.length
section
variable {bs : List By} {l : List Sty} {x : Sty} {h : Int}
theorem Call.bays (c : Call bs l x h) : baysOk bs := ((checkE_iff bs l).1 ((dockE_iff bs l).1 c.ok).1).1
theorem Call.box (c : Call bs l x h) {b : Sty} (hb : b ∈ l) : 0 ≤ b.a ∧ b.a < b.b ∧ b.b ≤ 1048576 := by
  have := good_box c.bays (((checkE_iff bs l).1 ((dockE_iff bs l).1 c.ok).1).2.2.1 b hb)
  omega
theorem Call.nums (c : Call bs l x h) : 1 ≤ x.len ∧ x.len ≤ 524288 ∧ 1 ≤ x.wid ∧ x.wid ≤ 524288 ∧ 1 ≤ h ∧ h ≤ 1048576 ∧ 0 ≤ x.a ∧ x.a ≤ 1048576 := by
  have := c.rng
  unfold fitB at this
  simp only [Bool.or_eq_false_iff, Bool.not_eq_false', Bool.and_eq_true, decide_eq_true_eq] at this
  omega
theorem Call.asked (c : Call bs l x h) {d : By} (hd : d ∈ bs) {t e : Int} (h0 : 0 ≤ t) (h1 : t < e) (h2 : e ≤ 1048576) : Asked bs l d (askd x d.nm t e) := by
  obtain ⟨i, hi, hdi⟩ := List.getElem_of_mem hd
  have hg : bs.getD i zeroBy = d := by rw [← hdi]; simp [List.getD_eq_getElem?_getD, hi]
  have hf := findB_self c.bays hi
  rw [hg] at hf
  have hn := c.nums
  have hl := c.room
  refine ⟨c.ok, by omega, fun b hb he => ?_, c.id, hf, rfl, ⟨hn.1, hn.2.1⟩, ⟨hn.2.2.1, hn.2.2.2.1⟩, ⟨h0, h1, h2⟩⟩
  have := List.any_eq_false.1 c.new b hb
  unfold hullB at this
  rw [beq_iff_eq] at this
  exact this he
theorem try_eq (c : Call bs l x h) {d : By} (hd : d ∈ bs) {t : Int} (h0 : 0 ≤ t) (h1 : t ≤ 1048576) : tryD l x h t d = tryE bs l x h t d := by
  have hn := c.nums
  unfold tryD tryE
  rw [wrap_i64 (n := t + h) (by omega) (by omega)]
  by_cases hbig : 1048576 < t + h
  · rw [fs_none (f := tryP l x t d), fs_none (f := tryA bs l x t d)]
    · intro e he
      rw [mem_endsC] at he
      rcases he with rfl | ⟨b, hb, _, h3, h4⟩
      · exact atD_late (by simp only [askd]; exact hbig)
      · have := c.box hb; omega
    · intro e he
      rw [mem_startsZ] at he
      have : 1048576 < e := by
        rcases he with rfl | ⟨b, hb, h3, h4⟩
        · exact hbig
        · have := c.box hb; omega
      unfold tryP
      rw [if_pos (by simpa using this)]
  · have hE : ∀ e ∈ startsZ l (t + h), t + h ≤ e ∧ e ≤ 1048576 := fun e he => by
      rw [mem_startsZ] at he
      rcases he with rfl | ⟨b, hb, h3, h4⟩
      · omega
      · have := c.box hb; omega
    refine fs_two (cs_asc _) (cs_asc _) (fun e he => ?_) (fun e he => ?_) (fun e he hs => ?_)
    · rw [mem_endsC] at he
      rw [mem_startsZ]
      rcases he with rfl | ⟨b, hb, _, h3, h4⟩
      · exact .inl rfl
      · exact .inr ⟨b, hb, h3, h4⟩
    · have := hE e he
      unfold tryP tryA
      rw [if_neg (by simp; omega)]
      exact place_at (c.asked hd h0 (by omega) (by omega))
    · have hb := hE e he
      by_cases hR : e ∈ endsC l d (t + h)
      · exact ⟨e, hR, Int.le_refl _, hs⟩
      · refine ⟨t + h, (mem_endsC _ _ _ _).2 (.inl rfl), by omega, ?_⟩
        have ha := c.asked hd h0 (t := t) (e := e) (by omega) (by omega)
        have ha2 := c.asked hd h0 (t := t) (e := t + h) (by omega) (by omega)
        unfold tryA at hs ⊢
        cases hy : atD bs l (askd x d.nm t e) with
        | none => rw [hy] at hs; cases hs
        | some y =>
          obtain ⟨X, Y, _, hF⟩ := at_is ha hy
          refine at_some ha2 (X := X) (Y := Y) ?_
          obtain ⟨f1, f2, f3, f4, f5⟩ := hF
          refine ⟨f1, f2, f3, f4, fun b hbl e1 e2 e3 => ?_⟩
          exfalso
          simp only [Sty.at_, askd] at e1 e2 e3
          have k := (f5 b hbl e1 (by simp only [Sty.at_, askd]; omega) (by simpa only [Sty.at_, askd] using e3)).1
          simp only [Sty.at_, askd] at k
          refine hR ((mem_endsC _ _ _ _).2 ?_)
          by_cases he2 : e = t + h
          · exact .inl he2
          · exact .inr ⟨b, hbl, e1, by omega, k⟩
theorem fitP_eq (c : Call bs l x h) : fitP bs l x h = fitR bs l x h := by
  have hn := c.nums
  unfold fitP fitR
  refine fs_congr fun t ht => fs_congr fun d hd => try_eq c hd ?_ ?_
  · rw [mem_startsZ] at ht
    rcases ht with rfl | ⟨b, hb, h3, h4⟩
    · omega
    · have := c.box hb; omega
  · rw [mem_startsZ] at ht
    rcases ht with rfl | ⟨b, hb, h3, h4⟩
    · omega
    · have := c.box hb; omega
end
theorem fit_eq (bs : List By) (l : List Sty) (x : Sty) (h : Int) : fitH bs l x h (fitP bs l x h) = fitH bs l x h (fitR bs l x h) := by
  unfold fitH
  by_cases h1 : dockE bs l = 0
  case neg => rw [if_pos (by simpa using h1), if_pos (by simpa using h1)]
  cases h2 : idB x.item
  · simp [h1]
  cases h3 : l.any (hullB x.item)
  case true => simp [h1]
  cases h4 : fitB x h
  case true => simp [h1]
  by_cases h5 : (128 : Int) ≤ l.length
  · simp [h1, h5]
  rw [fitP_eq ⟨h1, h2, h3, h4, h5⟩]
end Go.Proofs
end
section
set_option linter.unusedVariables false
set_option linter.unusedSimpArgs false
namespace Go.Proofs
open Go Go.Ab
set_option maxHeartbeats 8000000
set_option maxRecDepth 100000
set_option linter.unusedSimpArgs false
set_option linter.unusedVariables false
attribute [local irreducible] Awp aops aopsL Go.Ab.Pure PureOwn
structure Pl where
  bays : List By
  stays : List Sty
def Pl.av (p : Pl) : AV := .agg [.sl (bys p.bays), .sl (stys p.stays)]
attribute [go_sem] Pl.av
theorem size_ok {l : List Sty} (h : ∀ i, i < l.length → (l.getD i zeroSty).item.size ≤ 100) : ∀ i, i < l.length → (l.getD i zeroSty).item.size < 1000000 := fun i hi => by
  have := h i hi; omega
theorem fits_ok (p : Pl) (x : Sty) (h : Int) : Pure Tryz.prog 5 [p.av, x.av, .v (.int .i64 h)] (.v (.bool true)) := by
  have c0 := few_ok p.bays p.stays 9 (by decide)
  cases h1 : fewB p.bays p.stays 9
  · rw [h1] at c0
    refine fn_pure Tryz.F5 (Nat.le_of_ble_eq_true rfl) ?_; unfold Tryz.ac5
    repeat' (first
    | (apply Awp.sreg; (case hn => (simp only [List.length_cons, List.length_nil, Nat.reduceAdd] <;> rfl)))
    | (refine st_nil ?_)
    | (apply st_a; (case hc => rfl); (case he => (simp only [go_sem, *] <;> rfl)); (case hu => (simp only [updL_nil, updL_cons] <;> rfl)); (case hp => first | trivial))
    | (apply st_m; (case hc => rfl); (case hg => (simp only [go_sem, *] <;> rfl)); (case he => (intro hQz; (try simp only [wantB_t, wantB_f, Bool.and_eq_true, Bool.not_eq_true', Bool.not_true, Bool.not_false, and_true, true_and] at hQz); simp only [go_sem, *] <;> rfl)); (case hp => (intro hQz; (try simp only [wantB_t, wantB_f, Bool.and_eq_true, Bool.not_eq_true', Bool.or_eq_false_iff, decide_eq_true_eq, decide_eq_false_iff_not, beq_iff_eq, beq_eq_false_iff_ne, bne_iff_ne, bne_eq_false_iff_eq, Int.not_lt, Int.not_le, Int.ofNat_lt, Int.ofNat_le] at hQz); first | trivial)))
    | (apply st_c; (case hc => (simp only [go_sem, *] <;> rfl)); (case hl => (simp only [go_sem, *] <;> rfl)); (case hn => (simp only [go_sem, *] <;> rfl)); (case hp => first | exact c0 | (have hXz := c0; simp only [go_sem, *] at hXz; exact hXz)))
    | (apply st_c; (case hc => (simp only [go_sem, *] <;> rfl)); (case hl => (simp only [go_sem, *] <;> rfl)); (case hn => (simp only [go_sem, *] <;> rfl)); (case hp => first | exact alive_ok | (have hXz := alive_ok; simp only [go_sem, *] at hXz; exact hXz)))
    | (refine Awp.ret ?_; try simp only [go_sem, *])
    | (apply Awp.cond; (case hc => (simp only [go_sem, *] <;> rfl)); all_goals (intro hg; (try simp only [Bool.not_true, Bool.not_false, reduceCtorEq] at hg)))
    | refine Awp.seq ?_)
    all_goals repeat' (first | exact Lower.bool (by first | rfl | (simp only [true_and, Bool.true_and, Bool.false_and, Bool.and_true, Bool.and_false, Bool.true_or, Bool.false_or, reduceIte, Bool.false_eq_true, *]; done) | (simp only [true_and, reduceIte, Bool.false_eq_true, *] <;> rfl) | (simp [true_and]; done) | (simp_all [true_and]; done) | omega))
  cases h2 : decide ((100 : Int) < x.item.size)
  case true =>
    rw [h1] at c0
    refine fn_pure Tryz.F5 (Nat.le_of_ble_eq_true rfl) ?_; unfold Tryz.ac5
    repeat' (first
    | (apply Awp.sreg; (case hn => (simp only [List.length_cons, List.length_nil, Nat.reduceAdd] <;> rfl)))
    | (refine st_nil ?_)
    | (apply st_a; (case hc => rfl); (case he => (simp only [go_sem, *] <;> rfl)); (case hu => (simp only [updL_nil, updL_cons] <;> rfl)); (case hp => first | trivial))
    | (apply st_m; (case hc => rfl); (case hg => (simp only [go_sem, *] <;> rfl)); (case he => (intro hQz; (try simp only [wantB_t, wantB_f, Bool.and_eq_true, Bool.not_eq_true', Bool.not_true, Bool.not_false, and_true, true_and] at hQz); simp only [go_sem, *] <;> rfl)); (case hp => (intro hQz; (try simp only [wantB_t, wantB_f, Bool.and_eq_true, Bool.not_eq_true', Bool.or_eq_false_iff, decide_eq_true_eq, decide_eq_false_iff_not, beq_iff_eq, beq_eq_false_iff_ne, bne_iff_ne, bne_eq_false_iff_eq, Int.not_lt, Int.not_le, Int.ofNat_lt, Int.ofNat_le] at hQz); first | trivial)))
    | (apply st_c; (case hc => (simp only [go_sem, *] <;> rfl)); (case hl => (simp only [go_sem, *] <;> rfl)); (case hn => (simp only [go_sem, *] <;> rfl)); (case hp => first | exact c0 | (have hXz := c0; simp only [go_sem, *] at hXz; exact hXz)))
    | (apply st_c; (case hc => (simp only [go_sem, *] <;> rfl)); (case hl => (simp only [go_sem, *] <;> rfl)); (case hn => (simp only [go_sem, *] <;> rfl)); (case hp => first | exact alive_ok | (have hXz := alive_ok; simp only [go_sem, *] at hXz; exact hXz)))
    | (refine Awp.ret ?_; try simp only [go_sem, *])
    | (apply Awp.cond; (case hc => (simp only [go_sem, *] <;> rfl)); all_goals (intro hg; (try simp only [Bool.not_true, Bool.not_false, reduceCtorEq] at hg)))
    | refine Awp.seq ?_)
    all_goals repeat' (first | exact Lower.bool (by first | rfl | (simp only [true_and, Bool.true_and, Bool.false_and, Bool.and_true, Bool.and_false, Bool.true_or, Bool.false_or, reduceIte, Bool.false_eq_true, *]; done) | (simp only [true_and, reduceIte, Bool.false_eq_true, *] <;> rfl) | (simp [true_and]; done) | (simp_all [true_and]; done) | omega))
  rw [h1] at c0
  obtain ⟨hb, hl, hs⟩ := few_get h1
  have hx : x.item.size < 1000000 := by
    have := of_decide_eq_false h2; omega
  have c1 := fit_ok p.bays p.stays x h (by omega) (by omega)
  have c2 := rfit_ok p.bays p.stays x h (by omega) (by omega) hx (size_ok hs)
  rw [← fit_eq] at c2
  have e1 : ∀ n : Int, (n == n) = true := by simp
  have e2 : ∀ n : ByteArray, (n.toList == n.toList) = true := by simp
  have e3 : (false ^^ true) = true := rfl
  clear h1
  generalize fitH p.bays p.stays x h (fitP p.bays p.stays x h) = r at *
  obtain ⟨y, e⟩ := r
  dsimp only at c1 c2
  refine fn_pure Tryz.F5 (Nat.le_of_ble_eq_true rfl) ?_; unfold Tryz.ac5
  repeat' (first
    | (apply Awp.sreg; (case hn => (simp only [List.length_cons, List.length_nil, Nat.reduceAdd] <;> rfl)))
    | (refine st_nil ?_)
    | (apply st_a; (case hc => rfl); (case he => (simp only [go_sem, *] <;> rfl)); (case hu => (simp only [updL_nil, updL_cons] <;> rfl)); (case hp => first | trivial))
    | (apply st_m; (case hc => rfl); (case hg => (simp only [go_sem, *] <;> rfl)); (case he => (intro hQz; (try simp only [wantB_t, wantB_f, Bool.and_eq_true, Bool.not_eq_true', Bool.not_true, Bool.not_false, and_true, true_and] at hQz); simp only [go_sem, *] <;> rfl)); (case hp => (intro hQz; (try simp only [wantB_t, wantB_f, Bool.and_eq_true, Bool.not_eq_true', Bool.or_eq_false_iff, decide_eq_true_eq, decide_eq_false_iff_not, beq_iff_eq, beq_eq_false_iff_ne, bne_iff_ne, bne_eq_false_iff_eq, Int.not_lt, Int.not_le, Int.ofNat_lt, Int.ofNat_le] at hQz); first | trivial)))
    | (apply st_c; (case hc => (simp only [go_sem, *] <;> rfl)); (case hl => (simp only [go_sem, *] <;> rfl)); (case hn => (simp only [go_sem, *] <;> rfl)); (case hp => first | exact c0 | (have hXz := c0; simp only [go_sem, *] at hXz; exact hXz)))
    | (apply st_mc; (case hop => rfl); (case hg => (simp only [go_sem, *] <;> rfl)); (case hc => (intro hQz; (try simp only [wantB_t, wantB_f, Bool.and_eq_true, Bool.not_eq_true', Bool.not_true, Bool.not_false, and_true, true_and] at hQz); simp only [go_sem, *] <;> rfl)); (case hl => (intro hQz; (try simp only [wantB_t, wantB_f, Bool.and_eq_true, Bool.not_eq_true', Bool.not_true, Bool.not_false, and_true, true_and] at hQz); simp only [go_sem, *] <;> rfl)); (case hn => (intro hQz; (try simp only [wantB_t, wantB_f, Bool.and_eq_true, Bool.not_eq_true', Bool.not_true, Bool.not_false, and_true, true_and] at hQz); simp only [go_sem, *] <;> rfl)); (case hp => intro hQz; first | exact alive_ok | (have hXz := alive_ok; simp only [go_sem, *] at hXz; exact hXz)))
    | (apply st_c; (case hc => (simp only [go_sem, *] <;> rfl)); (case hl => (simp only [go_sem, *] <;> rfl)); (case hn => (simp only [go_sem, *] <;> rfl)); (case hp => first | exact c1 | (have hXz := c1; simp only [go_sem, *] at hXz; exact hXz)))
    | (apply st_c; (case hc => (simp only [go_sem, *] <;> rfl)); (case hl => (simp only [go_sem, *] <;> rfl)); (case hn => (simp only [go_sem, *] <;> rfl)); (case hp => first | exact c2 | (have hXz := c2; simp only [go_sem, *] at hXz; exact hXz)))
    | (refine Awp.ret ?_; try simp only [go_sem, *])
    | (refine Awp.skip ?_; try simp only [go_sem, *])
    | (apply Awp.cond; (case hc => (simp only [go_sem, *] <;> rfl)); all_goals (intro hg; (try simp only [Bool.not_true, Bool.not_false, reduceCtorEq] at hg)))
    | refine Awp.seq ?_)
  all_goals repeat' (first | exact Lower.bool (by first | rfl | (simp only [true_and, Bool.true_and, Bool.false_and, Bool.and_true, Bool.and_false, Bool.true_or, Bool.false_or, reduceIte, Bool.false_eq_true, *]; done) | (simp only [true_and, reduceIte, Bool.false_eq_true, *] <;> rfl) | (simp [true_and]; done) | (simp_all [true_and]; done) | omega))
end Go.Proofs
end
section
set_option linter.unusedVariables false
set_option linter.unusedSimpArgs false
namespace Go.Proofs
open Go Go.Ab
set_option maxHeartbeats 8000000
set_option maxRecDepth 100000
set_option linter.unusedSimpArgs false
set_option linter.unusedVariables false
attribute [local irreducible] Awp aops aopsL Go.Ab.Pure PureOwn
def skipB (a b : Sty) : Bool := !(b.bay.toList == a.bay.toList) || decide (b.b ≤ a.a) || decide (a.b ≤ b.a)
def badB (a b : Sty) : Bool := (a.b != b.b) || (decide (a.x < IntKind.i64.wrap (b.x + b.len)) && decide (b.x < IntKind.i64.wrap (a.x + a.len)) && decide (a.y < IntKind.i64.wrap (b.y + b.wid)) && decide (b.y < IntKind.i64.wrap (a.y + a.wid)))
end Go.Proofs
end
section
set_option linter.unusedVariables false
set_option linter.unusedSimpArgs false
namespace Go.Proofs
open Go Go.Ab
set_option maxHeartbeats 8000000
set_option maxRecDepth 100000
set_option linter.unusedSimpArgs false
set_option linter.unusedVariables false
attribute [local irreducible] Awp aops aopsL Go.Ab.Pure PureOwn
end Go.Proofs
end
section
set_option linter.unusedVariables false
set_option linter.unusedSimpArgs false
namespace Go.Proofs
open Go Go.Ab Go.ChangeShapes Go.WideShapes Go.ChangeAt Go.RowKit
set_option maxRecDepth 100000
theorem rest_laid : laidOutB Tryz.prog = true := by kernel_rfl
theorem rest_own : ownKnob Tryz.prog.godebug = none := by kernel_rfl
theorem shape_sty {qs : List AV} (h : Shape Tryz.prog 3 43 qs) : ∃ x : Sty, AV.agg qs = x.av := by
  unfold Shape at h
  rw [Tryz.underlying43] at h
  simp only [List.map_cons, List.map_nil, FieldsShape] at h
  obtain ⟨_, _, rfl, h0, _, _, rfl, h1, _, _, rfl, h2, _, _, rfl, h3, _, _, rfl, h4, _, _, rfl, h5, rfl⟩ := h
  unfold Shape at h0 h1 h2 h3 h4 h5
  simp only [Tryz.underlying3, Tryz.underlying9, Tryz.underlying41, Tryz.underlying30, List.map_cons, List.map_nil, FieldsShape] at h0 h1 h2 h3 h4 h5
  obtain ⟨_, _, rfl, h20, _, _, rfl, h21, rfl⟩ := h2
  obtain ⟨_, _, rfl, h50, _, _, rfl, h51, rfl⟩ := h5
  unfold Shape at h20 h21 h50 h51
  simp only [Tryz.underlying3] at h20 h21 h50 h51
  obtain ⟨x0, rfl, _⟩ := h0
  obtain ⟨x1, rfl, _⟩ := h1
  obtain ⟨x2, rfl, _⟩ := h20
  obtain ⟨x3, rfl, _⟩ := h21
  obtain ⟨x4, rfl, _⟩ := h3
  obtain ⟨x5, rfl, _⟩ := h4
  obtain ⟨x6, rfl, _⟩ := h50
  obtain ⟨x7, rfl, _⟩ := h51
  exact ⟨⟨x0, x1, x2, x3, x4, x5, x6, x7⟩, rfl⟩
theorem shape_stys {qs : List AV} (h : Shape Tryz.prog 4 23 qs) : ∃ l : List Sty, qs = [.sl (stys l)] := by
  unfold Shape at h
  rw [Tryz.underlying23] at h
  obtain ⟨es, rfl, _, he⟩ := h
  obtain ⟨l, rfl⟩ := map_shape (f := Sty.cells) fun q hq => by
    obtain ⟨x, hx⟩ := shape_sty (he q hq)
    refine ⟨x, ?_⟩
    have : AV.agg q = .agg x.cells := hx
    injection this
  exact ⟨l, rfl⟩
theorem shape_up {n : Nat} {qs : List AV} (h : Shape Tryz.prog 4 22 qs) : ∃ l : List By, qs = [.sl (bys l)] := by
  unfold Shape at h
  rw [Tryz.underlying22] at h
  obtain ⟨es, rfl, _, he⟩ := h
  obtain ⟨l, rfl⟩ := map_shape (f := By.cells) fun q hq => by
    have h3 := he q hq
    unfold Shape at h3
    rw [Tryz.underlying53] at h3
    simp only [List.map_cons, List.map_nil, FieldsShape] at h3
    obtain ⟨_, _, rfl, h0, _, _, rfl, h1, _, _, rfl, h2, rfl⟩ := h3
    unfold Shape at h0 h1 h2
    simp only [Tryz.underlying3, Tryz.underlying9] at h0 h1 h2
    obtain ⟨x0, rfl, _⟩ := h0
    obtain ⟨x1, rfl, _⟩ := h1
    obtain ⟨x2, rfl, _⟩ := h2
    exact ⟨⟨x0, x1, x2⟩, rfl⟩
  exact ⟨l, rfl⟩
theorem shape_plan {qs : List AV} (h : Shape Tryz.prog 5 39 qs) : ∃ p : Pl, AV.agg qs = p.av := by
  unfold Shape at h
  rw [Tryz.underlying39] at h
  simp only [List.map_cons, List.map_nil, FieldsShape] at h
  obtain ⟨_, _, rfl, h0, _, _, rfl, h1, rfl⟩ := h
  obtain ⟨bs, rfl⟩ := shape_up (n := 0) h0
  obtain ⟨l, rfl⟩ := shape_stys h1
  exact ⟨⟨bs, l⟩, rfl⟩
section
variable {H : Type} {enc : TypeId × Value → H} {w : World} {spare : Nat → Bool} {held : Bool} {r : Reach} {b0 : Nat} {v : Value} {d : DataW H} {p : List MemPlace}
theorem arg_plan (hval : Value.okWide Tryz.prog w r b0 39 v) (hd : DataW.Trod enc Tryz.prog w 0 spare held 39 v d p) : ∃ x : Pl, PureV (fun g => g < w.heap.size ∧ True) w x.av v := by
  obtain ⟨qs, hs, hp⟩ := arg_struct 5 Tryz.underlying39 (by kernel_rfl) hval hd
  obtain ⟨x, e⟩ := shape_plan hs
  exact ⟨x, e ▸ hp⟩
theorem arg_sty (hval : Value.okWide Tryz.prog w r b0 43 v) (hd : DataW.Trod enc Tryz.prog w 0 spare held 43 v d p) : ∃ x : Sty, PureV (fun g => g < w.heap.size ∧ True) w x.av v := by
  obtain ⟨qs, hs, hp⟩ := arg_struct 3 Tryz.underlying43 (by kernel_rfl) hval hd
  obtain ⟨x, e⟩ := shape_sty hs
  exact ⟨x, e ▸ hp⟩
end
open YtadpljebgkfeoaaGreatDoor in
/-- The settled world, the two tables of unicode/utf8 as their initialisers lay them. -/
noncomputable def laidWorld (os : Os) : World :=
  let w0 := World.holding Tryz.prog os ⟨#[], #[], []⟩
  let put (h : Array Obj) (g : Nat) (cs : Array Value) : Array Obj := h.modify g fun
    | .cells _ t frozen => .cells cs t frozen
    | o => o
  let h1 := put w0.heap 1 (laidVals 9 Rows.laid_unicode_utf8_first).toArray
  let h2 := put h1 2 (laidVals 9 (Rows.laid_unicode_utf8_acceptRanges (H := Unit))).toArray
  { w0 with heap := h2 }
open YtadpljebgkfeoaaGreatDoor in
theorem laid_met0 (os : Os) (args : Array Value) : laidMet Tryz.prog Rows.dockChecksRow.laid ((laidWorld os).forCall (fun _ _ => 0) ⟨#[], args, []⟩).memory :=
  laidMet_of_run' 8 (by kernel_rfl) (by kernel_rfl)
end Go.Proofs
end
