import Derived.Test.YtkgaiaapkcgdkaaGreatPYC
import Derived.Shelf.Small.Bits
import Derived.Shelf.Small.Wraps
import Derived.Shelf.Strconv.Itoa0
import Derived.Shelf.Sort.Plain
import Derived.Ground.Names2Prog
import Derived.Shelf.Slices.CompactI
import Derived.Shelf.Slices.SearchI
import Derived.Shelf.Slices.Cells
import Derived.Shelf.Slices.In.SortNone
import Derived.Test.YtkgaiaapkcgdkaaGreatProg
import Derived.Sort.OwnSortedInts
import Derived.Lib.SlicesCompact
import Derived.Shelf.SlSortCmp.NoneTotal
import Derived.Ground.SlsfProg
import Derived.StillTailTactics
section
set_option linter.unusedVariables false
set_option linter.unusedSimpArgs false
namespace Go.Proofs
open Go Go.Ab
set_option maxHeartbeats 8000000
set_option maxRecDepth 100000
attribute [local irreducible] Awp aops aopsL Go.Ab.Pure PureOwn

@[go_sem] theorem Tryz.co54 : Tryz.prog.cellsOf 54 = 4 := by kernel_rfl
@[go_sem] theorem Tryz.ag54 : isAggB Tryz.prog 54 = true := by kernel_rfl
@[go_sem] theorem Tryz.co89 : Tryz.prog.cellsOf 89 = 2 := by kernel_rfl
@[go_sem] theorem Tryz.ag89 : isAggB Tryz.prog 89 = true := by kernel_rfl
@[go_sem] theorem neg32768 : Int.negSucc 32767 = -32768 := rfl
def Rc.cells (q : Rc) : List AV := [.v (.int .i64 q.a), .v (.int .i64 q.b), .v (.int .i64 q.c), .v (.int .i64 q.d)]
def Rc.av (q : Rc) : AV := .agg q.cells
attribute [go_sem] Rc.cells Rc.av
def rcs (l : List Rc) : List (List AV) := l.map Rc.cells
@[go_sem] theorem rcs_len (l : List Rc) : (rcs l).length = l.length := by simp [rcs]
theorem rcs_at (l : List Rc) (i : Nat) (h : i < l.length) : (rcs l).getD i [] = (l.getD i zeroRc).cells := by
  simp [rcs, List.getD_eq_getElem?_getD, h]
theorem rcs_snoc (l : List Rc) (x : Rc) : rcs l ++ [[.v (.int .i64 x.a), .v (.int .i64 x.b), .v (.int .i64 x.c), .v (.int .i64 x.d)]] = rcs (l ++ [x]) := by simp [rcs, Rc.cells]
theorem rcs_snocC (l : List Rc) (x : Rc) : rcs l ++ [x.cells] = rcs (l ++ [x]) := by simp [rcs]
def Sp.cells (s : Sp) : List AV := [.v (.int .i64 s.a), .v (.int .i64 s.b)]
def Sp.av (s : Sp) : AV := .agg s.cells
attribute [go_sem] Sp.av Sp.cells
def sps (l : List Sp) : List (List AV) := l.map Sp.cells
@[go_sem] theorem sps_len (l : List Sp) : (sps l).length = l.length := by simp [sps]
theorem sps_at (l : List Sp) (i : Nat) (h : i < l.length) : (sps l).getD i [] = (l.getD i zeroSp).cells := by
  simp [sps, List.getD_eq_getElem?_getD, h]
theorem sps_snoc (l : List Sp) (x : Sp) : sps l ++ [[.v (.int .i64 x.a), .v (.int .i64 x.b)]] = sps (l ++ [x]) := by simp [sps, Sp.cells]
theorem mnI (a b : Int) : (if b < a then b else a) = min a b := by rw [Int.min_def]; split <;> split <;> omega
theorem mxI (a b : Int) : (if a < b then b else a) = max a b := by rw [Int.max_def]; split <;> split <;> omega
theorem within_ok (x l h : Int) : Pure Tryz.prog 39 [.v (.int .i64 x), .v (.int .i64 l), .v (.int .i64 h)] (.v (.bool (decide (l ≤ x) && decide (x ≤ h)))) := by
  refine fn_pure Tryz.F39 (Nat.le_of_ble_eq_true rfl) ?_; unfold Tryz.ac39
  repeat' (first
 | (apply Awp.sreg; (case hn => (simp only [List.length_cons, List.length_nil, Nat.reduceAdd] <;> rfl)))
 | (refine st_nil ?_)
 | (apply st_a; (case hc => rfl); (case he => (simp only [go_sem, *] <;> rfl)); (case hu => (simp only [updL_nil, updL_cons] <;> rfl)); (case hp => first | trivial))
 | (apply st_m; (case hc => rfl); (case hg => (simp only [go_sem, *] <;> rfl)); (case he => (intro hQz; (try simp only [wantB_t, wantB_f, Bool.and_eq_true, Bool.not_eq_true', Bool.not_true, Bool.not_false, and_true, true_and] at hQz); simp only [go_sem, *] <;> rfl)); (case hp => (intro hQz; (try simp only [wantB_t, wantB_f, Bool.and_eq_true, Bool.not_eq_true', Bool.or_eq_false_iff, decide_eq_true_eq, decide_eq_false_iff_not, beq_iff_eq, beq_eq_false_iff_ne, bne_iff_ne, bne_eq_false_iff_eq, Int.not_lt, Int.not_le, Int.ofNat_lt, Int.ofNat_le] at hQz); first | trivial)))
 | (refine Awp.ret ?_; try simp only [go_sem, *]))
  all_goals repeat' (first | exact Lower.bool (by first | rfl | (simp only [true_and, Bool.true_and, Bool.false_and, Bool.and_true, Bool.and_false, Bool.true_or, Bool.false_or, reduceIte, Bool.false_eq_true, *]; done) | (simp only [true_and, reduceIte, Bool.false_eq_true, *] <;> rfl) | (simp [true_and]; done) | (simp_all [true_and]; done) | omega))
theorem side_ok (x l : Int) : Pure Tryz.prog 82 [.v (.int .i64 x), .v (.int .i64 l)] (.v (.bool (decide (l ≤ x) && decide (x ≤ 32768)))) := by
  refine fn_pure Tryz.F82 (Nat.le_of_ble_eq_true rfl) ?_; unfold Tryz.ac82
  repeat' (first
 | (apply Awp.sreg; (case hn => (simp only [List.length_cons, List.length_nil, Nat.reduceAdd] <;> rfl)))
 | (refine st_nil ?_)
 | (apply st_a; (case hc => rfl); (case he => (simp only [go_sem, *] <;> rfl)); (case hu => (simp only [updL_nil, updL_cons] <;> rfl)); (case hp => first | trivial))
 | (apply st_m; (case hc => rfl); (case hg => (simp only [go_sem, *] <;> rfl)); (case he => (intro hQz; (try simp only [wantB_t, wantB_f, Bool.and_eq_true, Bool.not_eq_true', Bool.not_true, Bool.not_false, and_true, true_and] at hQz); simp only [go_sem, *] <;> rfl)); (case hp => (intro hQz; (try simp only [wantB_t, wantB_f, Bool.and_eq_true, Bool.not_eq_true', Bool.or_eq_false_iff, decide_eq_true_eq, decide_eq_false_iff_not, beq_iff_eq, beq_eq_false_iff_ne, bne_iff_ne, bne_eq_false_iff_eq, Int.not_lt, Int.not_le, Int.ofNat_lt, Int.ofNat_le] at hQz); first | trivial)))
 | (refine Awp.ret ?_; try simp only [go_sem, *]))
  all_goals repeat' (first | exact Lower.bool (by first | rfl | (simp only [true_and, Bool.true_and, Bool.false_and, Bool.and_true, Bool.and_false, Bool.true_or, Bool.false_or, reduceIte, Bool.false_eq_true, *]; done) | (simp only [true_and, reduceIte, Bool.false_eq_true, *] <;> rfl) | (simp [true_and]; done) | (simp_all [true_and]; done) | omega))
theorem meet_ok (r t : Rc) : Pure Tryz.prog 46 [r.av, t.av] (.v (.bool (meetB r t))) := by
  unfold meetB
  refine fn_pure Tryz.F46 (Nat.le_of_ble_eq_true rfl) ?_; unfold Tryz.ac46
  repeat' (first
 | (apply Awp.sreg; (case hn => (simp only [List.length_cons, List.length_nil, Nat.reduceAdd] <;> rfl)))
 | (refine st_nil ?_)
 | (apply st_a; (case hc => rfl); (case he => (simp only [go_sem, *] <;> rfl)); (case hu => (simp only [updL_nil, updL_cons] <;> rfl)); (case hp => first | trivial))
 | (apply st_m; (case hc => rfl); (case hg => (simp only [go_sem, *] <;> rfl)); (case he => (intro hQz; (try simp only [wantB_t, wantB_f, Bool.and_eq_true, Bool.not_eq_true', Bool.not_true, Bool.not_false, and_true, true_and] at hQz); simp only [go_sem, *] <;> rfl)); (case hp => (intro hQz; (try simp only [wantB_t, wantB_f, Bool.and_eq_true, Bool.not_eq_true', Bool.or_eq_false_iff, decide_eq_true_eq, decide_eq_false_iff_not, beq_iff_eq, beq_eq_false_iff_ne, bne_iff_ne, bne_eq_false_iff_eq, Int.not_lt, Int.not_le, Int.ofNat_lt, Int.ofNat_le] at hQz); first | trivial)))
 | (refine Awp.ret ?_; try simp only [go_sem, *]))
  all_goals repeat' (first | exact Lower.bool (by first | rfl | (simp only [true_and, Bool.true_and, Bool.false_and, Bool.and_true, Bool.and_false, Bool.true_or, Bool.false_or, reduceIte, Bool.false_eq_true, *]; done) | (simp only [true_and, reduceIte, Bool.false_eq_true, *] <;> rfl) | (simp [true_and]; done) | (simp_all [true_and]; done) | omega))
structure Small (r : Rc) : Prop where
  a : -40000 ≤ r.a ∧ r.a ≤ 40000
  b : -40000 ≤ r.b ∧ r.b ≤ 40000
  c : -40000 ≤ r.c ∧ r.c ≤ 40000
  d : -40000 ≤ r.d ∧ r.d ≤ 40000
theorem mul_small {x y : Int} (hx : -80000 ≤ x ∧ x ≤ 80000) (hy : -80000 ≤ y ∧ y ≤ 80000) : -6400000000 ≤ x * y ∧ x * y ≤ 6400000000 := by
  have h1 : (x + 80000) * (80000 - y) ≥ 0 := Int.mul_nonneg (by omega) (by omega)
  have h2 : (80000 - x) * (80000 + y) ≥ 0 := Int.mul_nonneg (by omega) (by omega)
  have h3 : (x + 80000) * (80000 + y) ≥ 0 := Int.mul_nonneg (by omega) (by omega)
  have h4 : (80000 - x) * (80000 - y) ≥ 0 := Int.mul_nonneg (by omega) (by omega)
  have e1 : (x + 80000) * (80000 - y) = 80000 * x - x * y + 6400000000 - 80000 * y := by
    rw [Int.add_mul, Int.mul_sub, Int.mul_sub]; omega
  have e2 : (80000 - x) * (80000 + y) = 6400000000 + 80000 * y - 80000 * x - x * y := by
    rw [Int.sub_mul, Int.mul_add, Int.mul_add]; omega
  have e3 : (x + 80000) * (80000 + y) = 80000 * x + x * y + 6400000000 + 80000 * y := by
    rw [Int.add_mul, Int.mul_add, Int.mul_add]; omega
  have e4 : (80000 - x) * (80000 - y) = 6400000000 - 80000 * y - 80000 * x + x * y := by
    rw [Int.sub_mul, Int.mul_sub, Int.mul_sub]; omega
  omega
theorem area_small {r : Rc} (h : Small r) : -6400000000 ≤ areaZ r ∧ areaZ r ≤ 6400000000 :=
  mul_small (by have := h.a; have := h.c; omega) (by have := h.b; have := h.d; omega)
theorem area_ok (r : Rc) (h : Small r) : Pure Tryz.prog 29 [r.av] (.v (.int .i64 (areaZ r))) := by
  have h1 := area_small h
  have w1 : IntKind.i64.wrap (r.c - r.a) = r.c - r.a := wrap_i64 (by have := h.a; have := h.c; omega) (by have := h.a; have := h.c; omega)
  have w2 : IntKind.i64.wrap (r.d - r.b) = r.d - r.b := wrap_i64 (by have := h.b; have := h.d; omega) (by have := h.b; have := h.d; omega)
  have w3 : IntKind.i64.wrap ((r.c - r.a) * (r.d - r.b)) = areaZ r := wrap_i64 (by unfold areaZ at h1; omega) (by unfold areaZ at h1; omega)
  clear h h1
  refine fn_pure Tryz.F29 (Nat.le_of_ble_eq_true rfl) ?_; unfold Tryz.ac29
  repeat' (first
 | (apply Awp.sreg; (case hn => (simp only [List.length_cons, List.length_nil, Nat.reduceAdd] <;> rfl)))
 | (refine st_nil ?_)
 | (apply st_a; (case hc => rfl); (case he => (simp only [go_sem, *] <;> rfl)); (case hu => (simp only [updL_nil, updL_cons] <;> rfl)); (case hp => first | trivial))
 | (refine Awp.ret ?_; try simp only [go_sem, *]))
  all_goals repeat' (first | exact Lower.int (by first | rfl | (simp only [true_and, Bool.true_and, Bool.false_and, Bool.and_true, Bool.and_false, Bool.true_or, Bool.false_or, reduceIte, Bool.false_eq_true, *]; done) | (simp only [true_and, reduceIte, Bool.false_eq_true, *] <;> rfl) | (simp [true_and]; done) | (simp_all [true_and]; done) | omega))
theorem rarea_ok (r : Rc) (h : Small r) : Pure Tryz.prog 66 [r.av] (.v (.int .i64 (areaZ r))) := by
  have h1 := area_small h
  have w1 : IntKind.i64.wrap (r.c - r.a) = r.c - r.a := wrap_i64 (by have := h.a; have := h.c; omega) (by have := h.a; have := h.c; omega)
  have w2 : IntKind.i64.wrap (r.d - r.b) = r.d - r.b := wrap_i64 (by have := h.b; have := h.d; omega) (by have := h.b; have := h.d; omega)
  have w3 : IntKind.i64.wrap ((r.c - r.a) * (r.d - r.b)) = areaZ r := wrap_i64 (by unfold areaZ at h1; omega) (by unfold areaZ at h1; omega)
  clear h h1
  refine fn_pure Tryz.F66 (Nat.le_of_ble_eq_true rfl) ?_; unfold Tryz.ac66
  repeat' (first
 | (apply Awp.sreg; (case hn => (simp only [List.length_cons, List.length_nil, Nat.reduceAdd] <;> rfl)))
 | (refine st_nil ?_)
 | (apply st_a; (case hc => rfl); (case he => (simp only [go_sem, *] <;> rfl)); (case hu => (simp only [updL_nil, updL_cons] <;> rfl)); (case hp => first | trivial))
 | (refine Awp.ret ?_; try simp only [go_sem, *]))
  all_goals repeat' (first | exact Lower.int (by first | rfl | (simp only [true_and, Bool.true_and, Bool.false_and, Bool.and_true, Bool.and_false, Bool.true_or, Bool.false_or, reduceIte, Bool.false_eq_true, *]; done) | (simp only [true_and, reduceIte, Bool.false_eq_true, *] <;> rfl) | (simp [true_and]; done) | (simp_all [true_and]; done) | omega))
theorem rect_ok (a b c d : Int) : Pure Tryz.prog 12 [.v (.int .i64 a), .v (.int .i64 b), .v (.int .i64 c), .v (.int .i64 d)] (⟨a, b, c, d⟩ : Rc).av := by
  refine fn_pure Tryz.F12 (Nat.le_of_ble_eq_true rfl) ?_; unfold Tryz.ac12
  repeat' (first
 | (apply Awp.sreg; (case hn => (simp only [List.length_cons, List.length_nil, Nat.reduceAdd] <;> rfl)))
 | (refine st_nil ?_)
 | (apply st_a; (case hc => rfl); (case he => (simp only [go_sem, *] <;> rfl)); (case hu => (simp only [updL_nil, updL_cons] <;> rfl)); (case hp => first | trivial))
 | (refine Awp.ret ?_; try simp only [go_sem, *]))
  all_goals repeat' (first | exact Lower.int (by first | rfl | (simp only [true_and, Bool.true_and, Bool.false_and, Bool.and_true, Bool.and_false, Bool.true_or, Bool.false_or, reduceIte, Bool.false_eq_true, *]; done) | (simp only [true_and, reduceIte, Bool.false_eq_true, *] <;> rfl) | (simp [true_and]; done) | (simp_all [true_and]; done) | omega) | refine Lower.aggF ?_ | refine All2.cons ?_ ?_ | exact All2.nil)
structure Plate where
  len : Int
  wid : Int
  tk : List Rc
  gap : Int
def Plate.av (x : Plate) : AV := .agg [.v (.int .i64 x.len), .v (.int .i64 x.wid), .sl (rcs x.tk), .v (.int .i64 x.gap)]
attribute [go_sem] Plate.av
def fewB (l : List Rc) : Bool := decide ((l.length : Int) ≤ 6) || decide ((32 : Int) < l.length)
def badR (q : Rc) : Bool := ((((decide (q.a < -32768) || decide (q.b < -32768)) || decide (32768 < q.c)) || decide (32768 < q.d)) || decide (q.c < q.a)) || decide (q.d < q.b)
def badS (q : Rc) : Bool := ((((decide (q.c < q.a) || decide (q.d < q.b)) || !(decide (-32768 ≤ q.a) && decide (q.a ≤ 32768))) || !(decide (-32768 ≤ q.b) && decide (q.b ≤ 32768))) || !(decide (-32768 ≤ q.c) && decide (q.c ≤ 32768))) || !(decide (-32768 ≤ q.d) && decide (q.d ≤ 32768))
theorem badS_eq (q : Rc) : badS q = badR q := by
  rw [Bool.eq_iff_iff]
  unfold badS badR
  simp only [Bool.or_eq_true, Bool.not_eq_true', Bool.and_eq_false_iff, decide_eq_true_eq, decide_eq_false_iff_not]
  omega
def headR (len wid gap : Int) (n : Nat) : Bool := ((!(decide (1 ≤ len) && decide (len ≤ 32768)) || !(decide (1 ≤ wid) && decide (wid ≤ 32768))) || !(decide (0 ≤ gap) && decide (gap ≤ 500))) || decide ((32 : Int) < n)
def headS (len wid gap : Int) (n : Nat) : Bool := (((!(decide (1 ≤ len) && decide (len ≤ 32768)) || !(decide (1 ≤ wid) && decide (wid ≤ 32768))) || decide (gap < 0)) || decide (500 < gap)) || decide ((32 : Int) < n)
theorem headS_eq (len wid gap : Int) (n : Nat) : headS len wid gap n = headR len wid gap n := by
  rw [Bool.eq_iff_iff]
  unfold headS headR
  simp only [Bool.or_eq_true, Bool.not_eq_true', Bool.and_eq_false_iff, decide_eq_true_eq, decide_eq_false_iff_not]
  omega
def rightB (len wid : Int) (l : List Rc) (gap : Int) : Bool := !headR len wid gap l.length && !l.any badR
theorem right_ok (len wid : Int) (l : List Rc) (gap : Int) : Pure Tryz.prog 19 [.v (.int .i64 len), .v (.int .i64 wid), .sl (rcs l), .v (.int .i64 gap)] (.v (.bool (rightB len wid l gap))) := by
  unfold rightB
  have k1 := within_ok len 1 32768
  have k2 := within_ok wid 1 32768
  have k3 := within_ok gap 0 500
  cases hH : headR len wid gap l.length
  case true =>
    unfold headR at hH
    refine fn_pure Tryz.F19 (Nat.le_of_ble_eq_true rfl) ?_; unfold Tryz.ac19
    repeat' (first
 | (apply Awp.sreg; (case hn => (simp only [List.length_cons, List.length_nil, Nat.reduceAdd] <;> rfl)))
 | (refine st_nil ?_)
 | (apply st_a; (case hc => rfl); (case he => (simp only [go_sem, *] <;> rfl)); (case hu => (simp only [updL_nil, updL_cons] <;> rfl)); (case hp => first | trivial))
 | (apply st_m; (case hc => rfl); (case hg => (simp only [go_sem, *] <;> rfl)); (case he => (intro hQz; (try simp only [wantB_t, wantB_f, Bool.and_eq_true, Bool.not_eq_true', Bool.not_true, Bool.not_false, and_true, true_and] at hQz); simp only [go_sem, *] <;> rfl)); (case hp => (intro hQz; (try simp only [wantB_t, wantB_f, Bool.and_eq_true, Bool.not_eq_true', Bool.or_eq_false_iff, decide_eq_true_eq, decide_eq_false_iff_not, beq_iff_eq, beq_eq_false_iff_ne, bne_iff_ne, bne_eq_false_iff_eq, Int.not_lt, Int.not_le, Int.ofNat_lt, Int.ofNat_le] at hQz); first | trivial)))
 | (apply st_c; (case hc => (simp only [go_sem, *] <;> rfl)); (case hl => (simp only [go_sem, *] <;> rfl)); (case hn => (simp only [go_sem, *] <;> rfl)); (case hp => first | exact k1 | (have hXz := k1; simp only [go_sem, *] at hXz; exact hXz)))
 | (apply st_mc; (case hop => rfl); (case hg => (simp only [go_sem, *] <;> rfl)); (case hc => (intro hQz; (try simp only [wantB_t, wantB_f, Bool.and_eq_true, Bool.not_eq_true', Bool.not_true, Bool.not_false, and_true, true_and] at hQz); simp only [go_sem, *] <;> rfl)); (case hl => (intro hQz; (try simp only [wantB_t, wantB_f, Bool.and_eq_true, Bool.not_eq_true', Bool.not_true, Bool.not_false, and_true, true_and] at hQz); simp only [go_sem, *] <;> rfl)); (case hn => (intro hQz; (try simp only [wantB_t, wantB_f, Bool.and_eq_true, Bool.not_eq_true', Bool.not_true, Bool.not_false, and_true, true_and] at hQz); simp only [go_sem, *] <;> rfl)); (case hp => intro hQz; first | exact k2 | (have hXz := k2; simp only [go_sem, *] at hXz; exact hXz)))
 | (apply st_mc; (case hop => rfl); (case hg => (simp only [go_sem, *] <;> rfl)); (case hc => (intro hQz; (try simp only [wantB_t, wantB_f, Bool.and_eq_true, Bool.not_eq_true', Bool.not_true, Bool.not_false, and_true, true_and] at hQz); simp only [go_sem, *] <;> rfl)); (case hl => (intro hQz; (try simp only [wantB_t, wantB_f, Bool.and_eq_true, Bool.not_eq_true', Bool.not_true, Bool.not_false, and_true, true_and] at hQz); simp only [go_sem, *] <;> rfl)); (case hn => (intro hQz; (try simp only [wantB_t, wantB_f, Bool.and_eq_true, Bool.not_eq_true', Bool.not_true, Bool.not_false, and_true, true_and] at hQz); simp only [go_sem, *] <;> rfl)); (case hp => intro hQz; first | exact k3 | (have hXz := k3; simp only [go_sem, *] at hXz; exact hXz)))
 | (refine Awp.ret ?_; try simp only [go_sem, *])
 | (apply Awp.cond; (case hc => (simp only [go_sem, *] <;> rfl)); all_goals (intro hg; (try simp only [Bool.not_true, Bool.not_false, reduceCtorEq] at hg)))
 | refine Awp.seq ?_)
    all_goals repeat' (first | exact Lower.bool (by first | rfl | (simp only [true_and, Bool.true_and, Bool.false_and, Bool.and_true, Bool.and_false, Bool.true_or, Bool.false_or, reduceIte, Bool.false_eq_true, *]; done) | (simp only [true_and, reduceIte, Bool.false_eq_true, *] <;> rfl) | (simp [true_and]; done) | (simp_all [true_and]; done) | omega))
  unfold headR at hH
  have hl32 : l.length ≤ 32 := by
    simp only [Bool.or_eq_false_iff, decide_eq_false_iff_not] at hH
    omega
  refine fn_pure Tryz.F19 (Nat.le_of_ble_eq_true rfl) ?_; unfold Tryz.ac19
  repeat' (first
 | (apply Awp.sreg; (case hn => (simp only [List.length_cons, List.length_nil, Nat.reduceAdd] <;> rfl)))
 | (refine st_nil ?_)
 | (apply st_a; (case hc => rfl); (case he => (simp only [go_sem, *] <;> rfl)); (case hu => (simp only [updL_nil, updL_cons] <;> rfl)); (case hp => first | trivial))
 | (apply st_m; (case hc => rfl); (case hg => (simp only [go_sem, *] <;> rfl)); (case he => (intro hQz; (try simp only [wantB_t, wantB_f, Bool.and_eq_true, Bool.not_eq_true', Bool.not_true, Bool.not_false, and_true, true_and] at hQz); simp only [go_sem, *] <;> rfl)); (case hp => (intro hQz; (try simp only [wantB_t, wantB_f, Bool.and_eq_true, Bool.not_eq_true', Bool.or_eq_false_iff, decide_eq_true_eq, decide_eq_false_iff_not, beq_iff_eq, beq_eq_false_iff_ne, bne_iff_ne, bne_eq_false_iff_eq, Int.not_lt, Int.not_le, Int.ofNat_lt, Int.ofNat_le] at hQz); first | trivial)))
 | (apply st_c; (case hc => (simp only [go_sem, *] <;> rfl)); (case hl => (simp only [go_sem, *] <;> rfl)); (case hn => (simp only [go_sem, *] <;> rfl)); (case hp => first | exact k1 | (have hXz := k1; simp only [go_sem, *] at hXz; exact hXz)))
 | (apply st_mc; (case hop => rfl); (case hg => (simp only [go_sem, *] <;> rfl)); (case hc => (intro hQz; (try simp only [wantB_t, wantB_f, Bool.and_eq_true, Bool.not_eq_true', Bool.not_true, Bool.not_false, and_true, true_and] at hQz); simp only [go_sem, *] <;> rfl)); (case hl => (intro hQz; (try simp only [wantB_t, wantB_f, Bool.and_eq_true, Bool.not_eq_true', Bool.not_true, Bool.not_false, and_true, true_and] at hQz); simp only [go_sem, *] <;> rfl)); (case hn => (intro hQz; (try simp only [wantB_t, wantB_f, Bool.and_eq_true, Bool.not_eq_true', Bool.not_true, Bool.not_false, and_true, true_and] at hQz); simp only [go_sem, *] <;> rfl)); (case hp => intro hQz; first | exact k2 | (have hXz := k2; simp only [go_sem, *] at hXz; exact hXz)))
 | (apply st_mc; (case hop => rfl); (case hg => (simp only [go_sem, *] <;> rfl)); (case hc => (intro hQz; (try simp only [wantB_t, wantB_f, Bool.and_eq_true, Bool.not_eq_true', Bool.not_true, Bool.not_false, and_true, true_and] at hQz); simp only [go_sem, *] <;> rfl)); (case hl => (intro hQz; (try simp only [wantB_t, wantB_f, Bool.and_eq_true, Bool.not_eq_true', Bool.not_true, Bool.not_false, and_true, true_and] at hQz); simp only [go_sem, *] <;> rfl)); (case hn => (intro hQz; (try simp only [wantB_t, wantB_f, Bool.and_eq_true, Bool.not_eq_true', Bool.not_true, Bool.not_false, and_true, true_and] at hQz); simp only [go_sem, *] <;> rfl)); (case hp => intro hQz; first | exact k3 | (have hXz := k3; simp only [go_sem, *] at hXz; exact hXz)))
 | (refine Awp.skip ?_; try simp only [go_sem, *])
 | refine Awp.block ?_
 | (apply Awp.cond; (case hc => (simp only [go_sem, *] <;> rfl)); all_goals (intro hg; (try simp only [Bool.not_true, Bool.not_false, reduceCtorEq] at hg)))
 | refine Awp.seq ?_)
  clear k1 k2 k3 hH
  refine Awp.loop (fun i : Nat => i ≤ l.length ∧ ∀ j, j < i → badR (l.getD j zeroRc) = false) 60 (fun i => mkS [(29, .sl (rcs l)), (30, .v (.int .i64 l.length)), (31, .v (.int .i64 i))] []) (fun i => l.length - i) 0 (by simp) ?_ ?_
  · (apply Ghost.mk [] []; (case hdead => rfl); (case hinj => rfl); (case hV => (simp only [go_sem, *]) <;> (repeat' (first | exact View.int (by first | rfl | omega | (simp; done) | (rw [wrap_i64] <;> (try simp only [Int.natCast_add]) <;> omega) | (simp [*]; done))))); (case hB => (simp only [go_sem, *]) <;> (repeat' (first | skip; done))))
  · intro i ⟨hi, hj⟩
    by_cases hlt : i < l.length
    · have hlt' : (i : Int) < l.length := by omega
      have hat := rcs_at l i hlt
      have hz : ((l.getD i zeroRc).cells).length = 4 := rfl
      cases hv : badR (l.getD i zeroRc)
      · have hnx := ltSucc (P := fun j => badR (l.getD j zeroRc) = false) hj hv
        clear hj
        unfold badR at hv
        repeat' (first
 | (apply Awp.sreg; (case hn => (simp only [List.length_cons, List.length_nil, Nat.reduceAdd] <;> rfl)))
 | (refine st_nil ?_)
 | (apply st_a; (case hc => rfl); (case he => (simp only [go_sem, *] <;> rfl)); (case hu => (simp only [updL_nil, updL_cons] <;> rfl)); (case hp => first | trivial | omega))
 | (apply st_m; (case hc => rfl); (case hg => (simp only [go_sem, *] <;> rfl)); (case he => (intro hQz; (try simp only [wantB_t, wantB_f, Bool.and_eq_true, Bool.not_eq_true', Bool.not_true, Bool.not_false, and_true, true_and] at hQz); simp only [go_sem, *] <;> rfl)); (case hp => (intro hQz; (try simp only [wantB_t, wantB_f, Bool.and_eq_true, Bool.not_eq_true', Bool.or_eq_false_iff, decide_eq_true_eq, decide_eq_false_iff_not, beq_iff_eq, beq_eq_false_iff_ne, bne_iff_ne, bne_eq_false_iff_eq, Int.not_lt, Int.not_le, Int.ofNat_lt, Int.ofNat_le] at hQz); first | trivial)))
 | (apply Awp.reg; (case hn => (simp only [List.length_cons, List.length_nil, Nat.reduceAdd] <;> rfl)))
 | (refine Awp.skip ?_; try simp only [go_sem, *])
 | refine Awp.block ?_
 | (apply Awp.cond; (case hc => (simp only [go_sem, *] <;> rfl)); all_goals (intro hg; (try simp only [Bool.not_true, Bool.not_false, reduceCtorEq] at hg)))
 | refine Awp.seq ?_)
        all_goals (refine ⟨i + 1, ⟨by omega, hnx⟩, by omega, ?_⟩; clear hnx; (apply Ghost.mk [] []; (case hdead => rfl); (case hinj => rfl); (case hV => (simp only [go_sem, *]) <;> (repeat' (first | exact View.int (by first | rfl | omega | (simp; done) | (rw [wrap_i64] <;> (try simp only [Int.natCast_add]) <;> omega) | (simp [*]; done))))); (case hB => (simp only [go_sem, *]) <;> (repeat' (first | skip; done)))))
      · have hf := any_in (p := badR) hlt hv
        rw [hf]
        clear hj hf
        unfold badR at hv
        repeat' (first
 | (apply Awp.sreg; (case hn => (simp only [List.length_cons, List.length_nil, Nat.reduceAdd] <;> rfl)))
 | (refine st_nil ?_)
 | (apply st_a; (case hc => rfl); (case he => (simp only [go_sem, *] <;> rfl)); (case hu => (simp only [updL_nil, updL_cons] <;> rfl)); (case hp => first | trivial | omega))
 | (apply st_m; (case hc => rfl); (case hg => (simp only [go_sem, *] <;> rfl)); (case he => (intro hQz; (try simp only [wantB_t, wantB_f, Bool.and_eq_true, Bool.not_eq_true', Bool.not_true, Bool.not_false, and_true, true_and] at hQz); simp only [go_sem, *] <;> rfl)); (case hp => (intro hQz; (try simp only [wantB_t, wantB_f, Bool.and_eq_true, Bool.not_eq_true', Bool.or_eq_false_iff, decide_eq_true_eq, decide_eq_false_iff_not, beq_iff_eq, beq_eq_false_iff_ne, bne_iff_ne, bne_eq_false_iff_eq, Int.not_lt, Int.not_le, Int.ofNat_lt, Int.ofNat_le] at hQz); first | trivial)))
 | (refine Awp.ret ?_; try simp only [go_sem, *])
 | (refine Awp.skip ?_; try simp only [go_sem, *])
 | refine Awp.block ?_
 | (apply Awp.cond; (case hc => (simp only [go_sem, *] <;> rfl)); all_goals (intro hg; (try simp only [Bool.not_true, Bool.not_false, reduceCtorEq] at hg)))
 | refine Awp.seq ?_)
        all_goals repeat' (first | exact Lower.bool (by first | rfl | (simp only [true_and, Bool.true_and, Bool.false_and, Bool.and_true, Bool.and_false, Bool.true_or, Bool.false_or, reduceIte, Bool.false_eq_true, *]; done) | (simp only [true_and, reduceIte, Bool.false_eq_true, *] <;> rfl) | (simp [true_and]; done) | (simp_all [true_and]; done) | omega))
    · have hlt' : ¬ (i : Int) < l.length := by omega
      have hf := any_end (p := badR) (Nat.le_of_not_lt hlt) hj
      rw [hf]
      clear hj hf
      repeat' (first
 | (apply Awp.sreg; (case hn => (simp only [List.length_cons, List.length_nil, Nat.reduceAdd] <;> rfl)))
 | (refine st_nil ?_)
 | (apply st_a; (case hc => rfl); (case he => (simp only [go_sem, *] <;> rfl)); (case hu => (simp only [updL_nil, updL_cons] <;> rfl)); (case hp => first | trivial))
 | (refine Awp.ret ?_; try simp only [go_sem, *])
 | (refine Awp.exit ?_; try simp only [go_sem, *])
 | (apply Awp.cond; (case hc => (simp only [go_sem, *] <;> rfl)); all_goals (intro hg; (try simp only [Bool.not_true, Bool.not_false, reduceCtorEq] at hg)))
 | refine Awp.seq ?_)
      all_goals repeat' (first | exact Lower.bool (by first | rfl | (simp only [true_and, Bool.true_and, Bool.false_and, Bool.and_true, Bool.and_false, Bool.true_or, Bool.false_or, reduceIte, Bool.false_eq_true, *]; done) | (simp only [true_and, reduceIte, Bool.false_eq_true, *] <;> rfl) | (simp [true_and]; done) | (simp_all [true_and]; done) | omega))
theorem rright_ok (len wid : Int) (l : List Rc) (gap : Int) : Pure Tryz.prog 62 [.v (.int .i64 len), .v (.int .i64 wid), .sl (rcs l), .v (.int .i64 gap)] (.v (.bool (rightB len wid l gap))) := by
  unfold rightB
  have k1 := side_ok len 1
  have k2 := side_ok wid 1
  rw [← headS_eq, ← funext badS_eq]
  cases hH : headS len wid gap l.length
  case true =>
    unfold headS at hH
    refine fn_pure Tryz.F62 (Nat.le_of_ble_eq_true rfl) ?_; unfold Tryz.ac62
    repeat' (first
 | (apply Awp.sreg; (case hn => (simp only [List.length_cons, List.length_nil, Nat.reduceAdd] <;> rfl)))
 | (refine st_nil ?_)
 | (apply st_a; (case hc => rfl); (case he => (simp only [go_sem, *] <;> rfl)); (case hu => (simp only [updL_nil, updL_cons] <;> rfl)); (case hp => first | trivial))
 | (apply st_m; (case hc => rfl); (case hg => (simp only [go_sem, *] <;> rfl)); (case he => (intro hQz; (try simp only [wantB_t, wantB_f, Bool.and_eq_true, Bool.not_eq_true', Bool.not_true, Bool.not_false, and_true, true_and] at hQz); simp only [go_sem, *] <;> rfl)); (case hp => (intro hQz; (try simp only [wantB_t, wantB_f, Bool.and_eq_true, Bool.not_eq_true', Bool.or_eq_false_iff, decide_eq_true_eq, decide_eq_false_iff_not, beq_iff_eq, beq_eq_false_iff_ne, bne_iff_ne, bne_eq_false_iff_eq, Int.not_lt, Int.not_le, Int.ofNat_lt, Int.ofNat_le] at hQz); first | trivial)))
 | (apply st_c; (case hc => (simp only [go_sem, *] <;> rfl)); (case hl => (simp only [go_sem, *] <;> rfl)); (case hn => (simp only [go_sem, *] <;> rfl)); (case hp => first | exact k1 | (have hXz := k1; simp only [go_sem, *] at hXz; exact hXz)))
 | (apply st_mc; (case hop => rfl); (case hg => (simp only [go_sem, *] <;> rfl)); (case hc => (intro hQz; (try simp only [wantB_t, wantB_f, Bool.and_eq_true, Bool.not_eq_true', Bool.not_true, Bool.not_false, and_true, true_and] at hQz); simp only [go_sem, *] <;> rfl)); (case hl => (intro hQz; (try simp only [wantB_t, wantB_f, Bool.and_eq_true, Bool.not_eq_true', Bool.not_true, Bool.not_false, and_true, true_and] at hQz); simp only [go_sem, *] <;> rfl)); (case hn => (intro hQz; (try simp only [wantB_t, wantB_f, Bool.and_eq_true, Bool.not_eq_true', Bool.not_true, Bool.not_false, and_true, true_and] at hQz); simp only [go_sem, *] <;> rfl)); (case hp => intro hQz; first | exact k2 | (have hXz := k2; simp only [go_sem, *] at hXz; exact hXz)))
 | (refine Awp.ret ?_; try simp only [go_sem, *])
 | (apply Awp.cond; (case hc => (simp only [go_sem, *] <;> rfl)); all_goals (intro hg; (try simp only [Bool.not_true, Bool.not_false, reduceCtorEq] at hg)))
 | refine Awp.seq ?_)
    all_goals repeat' (first | exact Lower.bool (by first | rfl | (simp only [true_and, Bool.true_and, Bool.false_and, Bool.and_true, Bool.and_false, Bool.true_or, Bool.false_or, reduceIte, Bool.false_eq_true, *]; done) | (simp only [true_and, reduceIte, Bool.false_eq_true, *] <;> rfl) | (simp [true_and]; done) | (simp_all [true_and]; done) | omega))
  unfold headS at hH
  have hl32 : l.length ≤ 32 := by
    simp only [Bool.or_eq_false_iff, decide_eq_false_iff_not] at hH
    omega
  refine fn_pure Tryz.F62 (Nat.le_of_ble_eq_true rfl) ?_; unfold Tryz.ac62
  repeat' (first
 | (apply Awp.sreg; (case hn => (simp only [List.length_cons, List.length_nil, Nat.reduceAdd] <;> rfl)))
 | (refine st_nil ?_)
 | (apply st_a; (case hc => rfl); (case he => (simp only [go_sem, *] <;> rfl)); (case hu => (simp only [updL_nil, updL_cons] <;> rfl)); (case hp => first | trivial))
 | (apply st_m; (case hc => rfl); (case hg => (simp only [go_sem, *] <;> rfl)); (case he => (intro hQz; (try simp only [wantB_t, wantB_f, Bool.and_eq_true, Bool.not_eq_true', Bool.not_true, Bool.not_false, and_true, true_and] at hQz); simp only [go_sem, *] <;> rfl)); (case hp => (intro hQz; (try simp only [wantB_t, wantB_f, Bool.and_eq_true, Bool.not_eq_true', Bool.or_eq_false_iff, decide_eq_true_eq, decide_eq_false_iff_not, beq_iff_eq, beq_eq_false_iff_ne, bne_iff_ne, bne_eq_false_iff_eq, Int.not_lt, Int.not_le, Int.ofNat_lt, Int.ofNat_le] at hQz); first | trivial)))
 | (apply st_c; (case hc => (simp only [go_sem, *] <;> rfl)); (case hl => (simp only [go_sem, *] <;> rfl)); (case hn => (simp only [go_sem, *] <;> rfl)); (case hp => first | exact k1 | (have hXz := k1; simp only [go_sem, *] at hXz; exact hXz)))
 | (apply st_mc; (case hop => rfl); (case hg => (simp only [go_sem, *] <;> rfl)); (case hc => (intro hQz; (try simp only [wantB_t, wantB_f, Bool.and_eq_true, Bool.not_eq_true', Bool.not_true, Bool.not_false, and_true, true_and] at hQz); simp only [go_sem, *] <;> rfl)); (case hl => (intro hQz; (try simp only [wantB_t, wantB_f, Bool.and_eq_true, Bool.not_eq_true', Bool.not_true, Bool.not_false, and_true, true_and] at hQz); simp only [go_sem, *] <;> rfl)); (case hn => (intro hQz; (try simp only [wantB_t, wantB_f, Bool.and_eq_true, Bool.not_eq_true', Bool.not_true, Bool.not_false, and_true, true_and] at hQz); simp only [go_sem, *] <;> rfl)); (case hp => intro hQz; first | exact k2 | (have hXz := k2; simp only [go_sem, *] at hXz; exact hXz)))
 | (refine Awp.skip ?_; try simp only [go_sem, *])
 | refine Awp.block ?_
 | (apply Awp.cond; (case hc => (simp only [go_sem, *] <;> rfl)); all_goals (intro hg; (try simp only [Bool.not_true, Bool.not_false, reduceCtorEq] at hg)))
 | refine Awp.seq ?_)
  clear k1 k2 hH
  refine Awp.loop (fun i : Nat => i ≤ l.length ∧ ∀ j, j < i → badS (l.getD j zeroRc) = false) 60 (fun i => mkS [(2, .sl (rcs l)), (9, .v (.int .i64 i))] []) (fun i => l.length - i) 0 (by simp) ?_ ?_
  · (apply Ghost.mk [] []; (case hdead => rfl); (case hinj => rfl); (case hV => (simp only [go_sem, *]) <;> (repeat' (first | exact View.int (by first | rfl | omega | (simp; done) | (rw [wrap_i64] <;> (try simp only [Int.natCast_add]) <;> omega) | (simp [*]; done))))); (case hB => (simp only [go_sem, *]) <;> (repeat' (first | skip; done))))
  · intro i ⟨hi, hj⟩
    by_cases hlt : i < l.length
    · have hlt' : (i : Int) < l.length := by omega
      have hat := rcs_at l i hlt
      have hz : ((l.getD i zeroRc).cells).length = 4 := rfl
      have m1 := side_ok (l.getD i zeroRc).a (-32768)
      have m2 := side_ok (l.getD i zeroRc).b (-32768)
      have m3 := side_ok (l.getD i zeroRc).c (-32768)
      have m4 := side_ok (l.getD i zeroRc).d (-32768)
      cases hv : badS (l.getD i zeroRc)
      · have hnx := ltSucc (P := fun j => badS (l.getD j zeroRc) = false) hj hv
        clear hj
        unfold badS at hv
        generalize l.getD i zeroRc = x at *
        repeat' (first
 | (apply Awp.sreg; (case hn => (simp only [List.length_cons, List.length_nil, Nat.reduceAdd] <;> rfl)))
 | (refine st_nil ?_)
 | (apply st_a; (case hc => rfl); (case he => (simp only [go_sem, *] <;> rfl)); (case hu => (simp only [updL_nil, updL_cons] <;> rfl)); (case hp => first | trivial | omega))
 | (apply st_m; (case hc => rfl); (case hg => (simp only [go_sem, *] <;> rfl)); (case he => (intro hQz; (try simp only [wantB_t, wantB_f, Bool.and_eq_true, Bool.not_eq_true', Bool.not_true, Bool.not_false, and_true, true_and] at hQz); simp only [go_sem, *] <;> rfl)); (case hp => (intro hQz; (try simp only [wantB_t, wantB_f, Bool.and_eq_true, Bool.not_eq_true', Bool.or_eq_false_iff, decide_eq_true_eq, decide_eq_false_iff_not, beq_iff_eq, beq_eq_false_iff_ne, bne_iff_ne, bne_eq_false_iff_eq, Int.not_lt, Int.not_le, Int.ofNat_lt, Int.ofNat_le] at hQz); first | trivial)))
 | (apply st_mc; (case hop => rfl); (case hg => (simp only [go_sem, *] <;> rfl)); (case hc => (intro hQz; (try simp only [wantB_t, wantB_f, Bool.and_eq_true, Bool.not_eq_true', Bool.not_true, Bool.not_false, and_true, true_and] at hQz); simp only [go_sem, *] <;> rfl)); (case hl => (intro hQz; (try simp only [wantB_t, wantB_f, Bool.and_eq_true, Bool.not_eq_true', Bool.not_true, Bool.not_false, and_true, true_and] at hQz); simp only [go_sem, *] <;> rfl)); (case hn => (intro hQz; (try simp only [wantB_t, wantB_f, Bool.and_eq_true, Bool.not_eq_true', Bool.not_true, Bool.not_false, and_true, true_and] at hQz); simp only [go_sem, *] <;> rfl)); (case hp => intro hQz; first | exact m1 | (have hXz := m1; simp only [go_sem, *] at hXz; exact hXz)))
 | (apply st_mc; (case hop => rfl); (case hg => (simp only [go_sem, *] <;> rfl)); (case hc => (intro hQz; (try simp only [wantB_t, wantB_f, Bool.and_eq_true, Bool.not_eq_true', Bool.not_true, Bool.not_false, and_true, true_and] at hQz); simp only [go_sem, *] <;> rfl)); (case hl => (intro hQz; (try simp only [wantB_t, wantB_f, Bool.and_eq_true, Bool.not_eq_true', Bool.not_true, Bool.not_false, and_true, true_and] at hQz); simp only [go_sem, *] <;> rfl)); (case hn => (intro hQz; (try simp only [wantB_t, wantB_f, Bool.and_eq_true, Bool.not_eq_true', Bool.not_true, Bool.not_false, and_true, true_and] at hQz); simp only [go_sem, *] <;> rfl)); (case hp => intro hQz; first | exact m2 | (have hXz := m2; simp only [go_sem, *] at hXz; exact hXz)))
 | (apply st_mc; (case hop => rfl); (case hg => (simp only [go_sem, *] <;> rfl)); (case hc => (intro hQz; (try simp only [wantB_t, wantB_f, Bool.and_eq_true, Bool.not_eq_true', Bool.not_true, Bool.not_false, and_true, true_and] at hQz); simp only [go_sem, *] <;> rfl)); (case hl => (intro hQz; (try simp only [wantB_t, wantB_f, Bool.and_eq_true, Bool.not_eq_true', Bool.not_true, Bool.not_false, and_true, true_and] at hQz); simp only [go_sem, *] <;> rfl)); (case hn => (intro hQz; (try simp only [wantB_t, wantB_f, Bool.and_eq_true, Bool.not_eq_true', Bool.not_true, Bool.not_false, and_true, true_and] at hQz); simp only [go_sem, *] <;> rfl)); (case hp => intro hQz; first | exact m3 | (have hXz := m3; simp only [go_sem, *] at hXz; exact hXz)))
 | (apply st_mc; (case hop => rfl); (case hg => (simp only [go_sem, *] <;> rfl)); (case hc => (intro hQz; (try simp only [wantB_t, wantB_f, Bool.and_eq_true, Bool.not_eq_true', Bool.not_true, Bool.not_false, and_true, true_and] at hQz); simp only [go_sem, *] <;> rfl)); (case hl => (intro hQz; (try simp only [wantB_t, wantB_f, Bool.and_eq_true, Bool.not_eq_true', Bool.not_true, Bool.not_false, and_true, true_and] at hQz); simp only [go_sem, *] <;> rfl)); (case hn => (intro hQz; (try simp only [wantB_t, wantB_f, Bool.and_eq_true, Bool.not_eq_true', Bool.not_true, Bool.not_false, and_true, true_and] at hQz); simp only [go_sem, *] <;> rfl)); (case hp => intro hQz; first | exact m4 | (have hXz := m4; simp only [go_sem, *] at hXz; exact hXz)))
 | (apply Awp.reg; (case hn => (simp only [List.length_cons, List.length_nil, Nat.reduceAdd] <;> rfl)))
 | (refine Awp.skip ?_; try simp only [go_sem, *])
 | refine Awp.block ?_
 | (apply Awp.cond; (case hc => (simp only [go_sem, *] <;> rfl)); all_goals (intro hg; (try simp only [Bool.not_true, Bool.not_false, reduceCtorEq] at hg)))
 | refine Awp.seq ?_)
        all_goals (refine ⟨i + 1, ⟨by omega, hnx⟩, by omega, ?_⟩; clear hnx m1 m2 m3 m4; (apply Ghost.mk [] []; (case hdead => rfl); (case hinj => rfl); (case hV => (simp only [go_sem, *]) <;> (repeat' (first | exact View.int (by first | rfl | omega | (simp; done) | (rw [wrap_i64] <;> (try simp only [Int.natCast_add]) <;> omega) | (simp [*]; done))))); (case hB => (simp only [go_sem, *]) <;> (repeat' (first | skip; done)))))
      · have hf := any_in (p := badS) hlt hv
        rw [hf]
        clear hj hf
        unfold badS at hv
        generalize l.getD i zeroRc = x at *
        repeat' (first
 | (apply Awp.sreg; (case hn => (simp only [List.length_cons, List.length_nil, Nat.reduceAdd] <;> rfl)))
 | (refine st_nil ?_)
 | (apply st_a; (case hc => rfl); (case he => (simp only [go_sem, *] <;> rfl)); (case hu => (simp only [updL_nil, updL_cons] <;> rfl)); (case hp => first | trivial | omega))
 | (apply st_m; (case hc => rfl); (case hg => (simp only [go_sem, *] <;> rfl)); (case he => (intro hQz; (try simp only [wantB_t, wantB_f, Bool.and_eq_true, Bool.not_eq_true', Bool.not_true, Bool.not_false, and_true, true_and] at hQz); simp only [go_sem, *] <;> rfl)); (case hp => (intro hQz; (try simp only [wantB_t, wantB_f, Bool.and_eq_true, Bool.not_eq_true', Bool.or_eq_false_iff, decide_eq_true_eq, decide_eq_false_iff_not, beq_iff_eq, beq_eq_false_iff_ne, bne_iff_ne, bne_eq_false_iff_eq, Int.not_lt, Int.not_le, Int.ofNat_lt, Int.ofNat_le] at hQz); first | trivial)))
 | (apply st_mc; (case hop => rfl); (case hg => (simp only [go_sem, *] <;> rfl)); (case hc => (intro hQz; (try simp only [wantB_t, wantB_f, Bool.and_eq_true, Bool.not_eq_true', Bool.not_true, Bool.not_false, and_true, true_and] at hQz); simp only [go_sem, *] <;> rfl)); (case hl => (intro hQz; (try simp only [wantB_t, wantB_f, Bool.and_eq_true, Bool.not_eq_true', Bool.not_true, Bool.not_false, and_true, true_and] at hQz); simp only [go_sem, *] <;> rfl)); (case hn => (intro hQz; (try simp only [wantB_t, wantB_f, Bool.and_eq_true, Bool.not_eq_true', Bool.not_true, Bool.not_false, and_true, true_and] at hQz); simp only [go_sem, *] <;> rfl)); (case hp => intro hQz; first | exact m1 | (have hXz := m1; simp only [go_sem, *] at hXz; exact hXz)))
 | (apply st_mc; (case hop => rfl); (case hg => (simp only [go_sem, *] <;> rfl)); (case hc => (intro hQz; (try simp only [wantB_t, wantB_f, Bool.and_eq_true, Bool.not_eq_true', Bool.not_true, Bool.not_false, and_true, true_and] at hQz); simp only [go_sem, *] <;> rfl)); (case hl => (intro hQz; (try simp only [wantB_t, wantB_f, Bool.and_eq_true, Bool.not_eq_true', Bool.not_true, Bool.not_false, and_true, true_and] at hQz); simp only [go_sem, *] <;> rfl)); (case hn => (intro hQz; (try simp only [wantB_t, wantB_f, Bool.and_eq_true, Bool.not_eq_true', Bool.not_true, Bool.not_false, and_true, true_and] at hQz); simp only [go_sem, *] <;> rfl)); (case hp => intro hQz; first | exact m2 | (have hXz := m2; simp only [go_sem, *] at hXz; exact hXz)))
 | (apply st_mc; (case hop => rfl); (case hg => (simp only [go_sem, *] <;> rfl)); (case hc => (intro hQz; (try simp only [wantB_t, wantB_f, Bool.and_eq_true, Bool.not_eq_true', Bool.not_true, Bool.not_false, and_true, true_and] at hQz); simp only [go_sem, *] <;> rfl)); (case hl => (intro hQz; (try simp only [wantB_t, wantB_f, Bool.and_eq_true, Bool.not_eq_true', Bool.not_true, Bool.not_false, and_true, true_and] at hQz); simp only [go_sem, *] <;> rfl)); (case hn => (intro hQz; (try simp only [wantB_t, wantB_f, Bool.and_eq_true, Bool.not_eq_true', Bool.not_true, Bool.not_false, and_true, true_and] at hQz); simp only [go_sem, *] <;> rfl)); (case hp => intro hQz; first | exact m3 | (have hXz := m3; simp only [go_sem, *] at hXz; exact hXz)))
 | (apply st_mc; (case hop => rfl); (case hg => (simp only [go_sem, *] <;> rfl)); (case hc => (intro hQz; (try simp only [wantB_t, wantB_f, Bool.and_eq_true, Bool.not_eq_true', Bool.not_true, Bool.not_false, and_true, true_and] at hQz); simp only [go_sem, *] <;> rfl)); (case hl => (intro hQz; (try simp only [wantB_t, wantB_f, Bool.and_eq_true, Bool.not_eq_true', Bool.not_true, Bool.not_false, and_true, true_and] at hQz); simp only [go_sem, *] <;> rfl)); (case hn => (intro hQz; (try simp only [wantB_t, wantB_f, Bool.and_eq_true, Bool.not_eq_true', Bool.not_true, Bool.not_false, and_true, true_and] at hQz); simp only [go_sem, *] <;> rfl)); (case hp => intro hQz; first | exact m4 | (have hXz := m4; simp only [go_sem, *] at hXz; exact hXz)))
 | (refine Awp.ret ?_; try simp only [go_sem, *])
 | (refine Awp.skip ?_; try simp only [go_sem, *])
 | refine Awp.block ?_
 | (apply Awp.cond; (case hc => (simp only [go_sem, *] <;> rfl)); all_goals (intro hg; (try simp only [Bool.not_true, Bool.not_false, reduceCtorEq] at hg)))
 | refine Awp.seq ?_)
        all_goals repeat' (first | exact Lower.bool (by first | rfl | (simp only [true_and, Bool.true_and, Bool.false_and, Bool.and_true, Bool.and_false, Bool.true_or, Bool.false_or, reduceIte, Bool.false_eq_true, *]; done) | (simp only [true_and, reduceIte, Bool.false_eq_true, *] <;> rfl) | (simp [true_and]; done) | (simp_all [true_and]; done) | omega))
    · have hlt' : ¬ (i : Int) < l.length := by omega
      have hf := any_end (p := badS) (Nat.le_of_not_lt hlt) hj
      rw [hf]
      clear hj hf
      repeat' (first
 | (apply Awp.sreg; (case hn => (simp only [List.length_cons, List.length_nil, Nat.reduceAdd] <;> rfl)))
 | (refine st_nil ?_)
 | (apply st_a; (case hc => rfl); (case he => (simp only [go_sem, *] <;> rfl)); (case hu => (simp only [updL_nil, updL_cons] <;> rfl)); (case hp => first | trivial))
 | (refine Awp.ret ?_; try simp only [go_sem, *])
 | (refine Awp.exit ?_; try simp only [go_sem, *])
 | (apply Awp.cond; (case hc => (simp only [go_sem, *] <;> rfl)); all_goals (intro hg; (try simp only [Bool.not_true, Bool.not_false, reduceCtorEq] at hg)))
 | refine Awp.seq ?_)
      all_goals repeat' (first | exact Lower.bool (by first | rfl | (simp only [true_and, Bool.true_and, Bool.false_and, Bool.and_true, Bool.and_false, Bool.true_or, Bool.false_or, reduceIte, Bool.false_eq_true, *]; done) | (simp only [true_and, reduceIte, Bool.false_eq_true, *] <;> rfl) | (simp [true_and]; done) | (simp_all [true_and]; done) | omega))
end Go.Proofs
end
section
set_option linter.unusedVariables false
set_option linter.unusedSimpArgs false
namespace Go.Proofs
open Go Go.Ab
set_option maxHeartbeats 8000000
set_option maxRecDepth 100000
attribute [local irreducible] Awp aops aopsL Go.Ab.Pure PureOwn

structure GoodT (l : List Rc) (g : Int) : Prop where
  few : l.length ≤ 32
  ok : ∀ i, i < l.length → badR (l.getD i zeroRc) = false
  g : 0 ≤ g ∧ g ≤ 500
theorem bad_no {q : Rc} (h : badR q = false) : -32768 ≤ q.a ∧ -32768 ≤ q.b ∧ q.c ≤ 32768 ∧ q.d ≤ 32768 ∧ q.a ≤ q.c ∧ q.b ≤ q.d := by
  unfold badR at h
  simp only [Bool.or_eq_false_iff, decide_eq_false_iff_not] at h
  omega
theorem good_of {len wid : Int} {l : List Rc} {g : Int} (h : rightB len wid l g = true) : GoodT l g ∧ (1 ≤ len ∧ len ≤ 32768) ∧ (1 ≤ wid ∧ wid ≤ 32768) := by
  unfold rightB headR at h
  simp only [Bool.and_eq_true, Bool.not_eq_true', Bool.or_eq_false_iff, Bool.not_eq_false', decide_eq_true_eq, decide_eq_false_iff_not] at h
  refine ⟨⟨by omega, fun i hi => ?_, by omega⟩, by omega, by omega⟩
  have := h.2
  rw [List.any_eq_false] at this
  have k := this (l.getD i zeroRc) (by rw [getD_get _ _ i hi]; exact List.getElem_mem _)
  simpa using k
theorem rfree_ok (len wid : Int) (l : List Rc) (g : Int) (x : Rc) (hT : GoodT l g) : Pure Tryz.prog 64 [.v (.int .i64 len), .v (.int .i64 wid), .sl (rcs l), .v (.int .i64 g), x.av] (.v (.bool (freeR len wid l g x))) := by
  have hl := hT.few
  have hg := hT.g
  have hok := hT.ok
  clear hT
  unfold freeR
  cases hO : offP len wid x
  case true =>
    unfold offP at hO
    clear hok
    refine fn_pure Tryz.F64 (Nat.le_of_ble_eq_true rfl) ?_; unfold Tryz.ac64
    repeat' (first
 | (apply Awp.sreg; (case hn => (simp only [List.length_cons, List.length_nil, Nat.reduceAdd] <;> rfl)))
 | (refine st_nil ?_)
 | (apply st_a; (case hc => rfl); (case he => (simp only [go_sem, *] <;> rfl)); (case hu => (simp only [updL_nil, updL_cons] <;> rfl)); (case hp => first | trivial))
 | (apply st_m; (case hc => rfl); (case hg => (simp only [go_sem, *] <;> rfl)); (case he => (intro hQz; (try simp only [wantB_t, wantB_f, Bool.and_eq_true, Bool.not_eq_true', Bool.not_true, Bool.not_false, and_true, true_and] at hQz); simp only [go_sem, *] <;> rfl)); (case hp => (intro hQz; (try simp only [wantB_t, wantB_f, Bool.and_eq_true, Bool.not_eq_true', Bool.or_eq_false_iff, decide_eq_true_eq, decide_eq_false_iff_not, beq_iff_eq, beq_eq_false_iff_ne, bne_iff_ne, bne_eq_false_iff_eq, Int.not_lt, Int.not_le, Int.ofNat_lt, Int.ofNat_le] at hQz); first | trivial)))
 | (refine Awp.ret ?_; try simp only [go_sem, *])
 | (apply Awp.cond; (case hc => (simp only [go_sem, *] <;> rfl)); all_goals (intro hg; (try simp only [Bool.not_true, Bool.not_false, reduceCtorEq] at hg)))
 | refine Awp.seq ?_)
    all_goals repeat' (first | exact Lower.bool (by first | rfl | (simp only [true_and, Bool.true_and, Bool.false_and, Bool.and_true, Bool.and_false, Bool.true_or, Bool.false_or, reduceIte, Bool.false_eq_true, *]; done) | (simp only [true_and, reduceIte, Bool.false_eq_true, *] <;> rfl) | (simp [true_and]; done) | (simp_all [true_and]; done) | omega))
  unfold offP at hO
  refine fn_pure Tryz.F64 (Nat.le_of_ble_eq_true rfl) ?_; unfold Tryz.ac64
  repeat' (first
 | (apply Awp.sreg; (case hn => (simp only [List.length_cons, List.length_nil, Nat.reduceAdd] <;> rfl)))
 | (refine st_nil ?_)
 | (apply st_a; (case hc => rfl); (case he => (simp only [go_sem, *] <;> rfl)); (case hu => (simp only [updL_nil, updL_cons] <;> rfl)); (case hp => first | trivial))
 | (apply st_m; (case hc => rfl); (case hg => (simp only [go_sem, *] <;> rfl)); (case he => (intro hQz; (try simp only [wantB_t, wantB_f, Bool.and_eq_true, Bool.not_eq_true', Bool.not_true, Bool.not_false, and_true, true_and] at hQz); simp only [go_sem, *] <;> rfl)); (case hp => (intro hQz; (try simp only [wantB_t, wantB_f, Bool.and_eq_true, Bool.not_eq_true', Bool.or_eq_false_iff, decide_eq_true_eq, decide_eq_false_iff_not, beq_iff_eq, beq_eq_false_iff_ne, bne_iff_ne, bne_eq_false_iff_eq, Int.not_lt, Int.not_le, Int.ofNat_lt, Int.ofNat_le] at hQz); first | trivial)))
 | (refine Awp.skip ?_; try simp only [go_sem, *])
 | refine Awp.block ?_
 | (apply Awp.cond; (case hc => (simp only [go_sem, *] <;> rfl)); all_goals (intro hg; (try simp only [Bool.not_true, Bool.not_false, reduceCtorEq] at hg)))
 | refine Awp.seq ?_)
  clear hO
  refine Awp.loop (fun i : Nat => i ≤ l.length ∧ ∀ j, j < i → hitR g x (l.getD j zeroRc) = false) 60 (fun i => mkS [(2, .sl (rcs l)), (3, .v (.int .i64 g)), (9, .bp 0 0), (11, .v (.int .i64 i))] [(0, .box x.cells)]) (fun i => l.length - i) 0 (by simp) ?_ ?_
  · clear hok
    (apply Ghost.mk [(0, 0)] []; (case hdead => rfl); (case hinj => rfl); (case hV => (simp only [go_sem, *]) <;> (repeat' (first | refine And.intro ?_ ?_ | exact View.int (by first | rfl | omega | (simp; done) | (rw [wrap_i64] <;> (try simp only [Int.natCast_add]) <;> omega) | (simp [*]; done)) | exact .bp rfl (by decide)))); (case hB => (simp only [go_sem, *]) <;> (repeat' (first | exact ⟨_, rfl, BView.boxF rfl⟩))))
  · intro i ⟨hi, hj⟩
    by_cases hlt : i < l.length
    · have hlt' : (i : Int) < l.length := by omega
      have hat := rcs_at l i hlt
      have hz : ((l.getD i zeroRc).cells).length = 4 := rfl
      have hB := bad_no (hok i hlt)
      have hnx0 := fun h => ltSucc (P := fun j => hitR g x (l.getD j zeroRc) = false) hj h
      have hany := fun h => any_in (p := hitR g x) (d := zeroRc) hlt h
      clear hok hj
      generalize l.getD i zeroRc = t at *
      have w1 : IntKind.i64.wrap (t.a - g) = t.a - g := wrap_i64 (by omega) (by omega)
      have w2 : IntKind.i64.wrap (t.b - g) = t.b - g := wrap_i64 (by omega) (by omega)
      have w3 : IntKind.i64.wrap (t.c + g) = t.c + g := wrap_i64 (by omega) (by omega)
      have w4 : IntKind.i64.wrap (t.d + g) = t.d + g := wrap_i64 (by omega) (by omega)
      have e1 := mxI x.a (t.a - g)
      have e2 := mxI x.b (t.b - g)
      have e3 := mnI x.c (t.c + g)
      have e4 := mnI x.d (t.d + g)
      clear hB
      cases hv : hitR g x t
      · have hnx := hnx0 hv
        clear hnx0 hany
        unfold hitR at hv
        repeat' (first
 | (apply Awp.sreg; (case hn => (simp only [List.length_cons, List.length_nil, Nat.reduceAdd] <;> rfl)))
 | (apply Awp.sdraw; (case hn => (simp only [List.length_cons, List.length_nil, Nat.reduceAdd] <;> rfl)))
 | (refine st_nil ?_)
 | (apply st_a; (case hc => rfl); (case he => (simp only [go_sem, *] <;> rfl)); (case hu => (simp only [updL_nil, updL_cons] <;> rfl)); (case hp => first | trivial | omega))
 | (apply st_m; (case hc => rfl); (case hg => (simp only [go_sem, *] <;> rfl)); (case he => (intro hQz; (try simp only [wantB_t, wantB_f, Bool.and_eq_true, Bool.not_eq_true', Bool.not_true, Bool.not_false, and_true, true_and] at hQz); simp only [go_sem, *] <;> rfl)); (case hp => (intro hQz; (try simp only [wantB_t, wantB_f, Bool.and_eq_true, Bool.not_eq_true', Bool.or_eq_false_iff, decide_eq_true_eq, decide_eq_false_iff_not, beq_iff_eq, beq_eq_false_iff_ne, bne_iff_ne, bne_eq_false_iff_eq, Int.not_lt, Int.not_le, Int.ofNat_lt, Int.ofNat_le] at hQz); first | trivial)))
 | (apply Awp.reg; (case hn => (simp only [List.length_cons, List.length_nil, Nat.reduceAdd] <;> rfl)))
 | (refine Awp.skip ?_; try simp only [go_sem, *])
 | refine Awp.block ?_
 | (apply Awp.cond; (case hc => (simp only [go_sem, *] <;> rfl)); all_goals (intro hg; (try simp only [Bool.not_true, Bool.not_false, reduceCtorEq] at hg)))
 | refine Awp.seq ?_
 | (apply sl_a; (case hc => rfl); (case he => (simp only [go_sem, *] <;> rfl)); (case hu => (simp only [updL_nil, updL_cons] <;> rfl)); (case hl => (simp only [List.map_cons, List.map_nil] <;> rfl)); (case hp => first | trivial))
 | (refine sl_nil (And.intro (by first | exact drawOk_of (by decide +kernel) | (simp only [List.map_cons, List.map_nil]; exact drawOk_of (by decide +kernel)) | decide) ?_)))
        all_goals (refine ⟨i + 1, ⟨by omega, hnx⟩, by omega, ?_⟩; clear hnx; (apply Ghost.mk [(0, 0)] []; (case hdead => rfl); (case hinj => rfl); (case hV => (simp only [go_sem, *]) <;> (repeat' (first | refine And.intro ?_ ?_ | exact View.int (by first | rfl | omega | (simp; done) | (rw [wrap_i64] <;> (try simp only [Int.natCast_add]) <;> omega) | (simp [*]; done)) | exact .bp rfl (by decide)))); (case hB => (simp only [go_sem, *]) <;> (repeat' (first | exact ⟨_, rfl, BView.boxF rfl⟩)))))
      · rw [hany hv]
        clear hnx0 hany
        unfold hitR at hv
        repeat' (first
 | (apply Awp.sreg; (case hn => (simp only [List.length_cons, List.length_nil, Nat.reduceAdd] <;> rfl)))
 | (apply Awp.sdraw; (case hn => (simp only [List.length_cons, List.length_nil, Nat.reduceAdd] <;> rfl)))
 | (refine st_nil ?_)
 | (apply st_a; (case hc => rfl); (case he => (simp only [go_sem, *] <;> rfl)); (case hu => (simp only [updL_nil, updL_cons] <;> rfl)); (case hp => first | trivial | omega))
 | (apply st_m; (case hc => rfl); (case hg => (simp only [go_sem, *] <;> rfl)); (case he => (intro hQz; (try simp only [wantB_t, wantB_f, Bool.and_eq_true, Bool.not_eq_true', Bool.not_true, Bool.not_false, and_true, true_and] at hQz); simp only [go_sem, *] <;> rfl)); (case hp => (intro hQz; (try simp only [wantB_t, wantB_f, Bool.and_eq_true, Bool.not_eq_true', Bool.or_eq_false_iff, decide_eq_true_eq, decide_eq_false_iff_not, beq_iff_eq, beq_eq_false_iff_ne, bne_iff_ne, bne_eq_false_iff_eq, Int.not_lt, Int.not_le, Int.ofNat_lt, Int.ofNat_le] at hQz); first | trivial)))
 | (refine Awp.ret ?_; try simp only [go_sem, *])
 | (refine Awp.skip ?_; try simp only [go_sem, *])
 | refine Awp.block ?_
 | (apply Awp.cond; (case hc => (simp only [go_sem, *] <;> rfl)); all_goals (intro hg; (try simp only [Bool.not_true, Bool.not_false, reduceCtorEq] at hg)))
 | refine Awp.seq ?_
 | (apply sl_a; (case hc => rfl); (case he => (simp only [go_sem, *] <;> rfl)); (case hu => (simp only [updL_nil, updL_cons] <;> rfl)); (case hl => (simp only [List.map_cons, List.map_nil] <;> rfl)); (case hp => first | trivial))
 | (refine sl_nil (And.intro (by first | exact drawOk_of (by decide +kernel) | (simp only [List.map_cons, List.map_nil]; exact drawOk_of (by decide +kernel)) | decide) ?_)))
        all_goals repeat' (first | exact Lower.bool (by first | rfl | (simp only [true_and, Bool.true_and, Bool.false_and, Bool.and_true, Bool.and_false, Bool.true_or, Bool.false_or, reduceIte, Bool.false_eq_true, *]; done) | (simp only [true_and, reduceIte, Bool.false_eq_true, *] <;> rfl) | (simp [true_and]; done) | (simp_all [true_and]; done) | omega))
    · have hlt' : ¬ (i : Int) < l.length := by omega
      have hf := any_end (p := hitR g x) (Nat.le_of_not_lt hlt) hj
      rw [hf]
      clear hj hf hok
      repeat' (first
 | (apply Awp.sreg; (case hn => (simp only [List.length_cons, List.length_nil, Nat.reduceAdd] <;> rfl)))
 | (refine st_nil ?_)
 | (apply st_a; (case hc => rfl); (case he => (simp only [go_sem, *] <;> rfl)); (case hu => (simp only [updL_nil, updL_cons] <;> rfl)); (case hp => first | trivial))
 | (refine Awp.ret ?_; try simp only [go_sem, *])
 | (refine Awp.exit ?_; try simp only [go_sem, *])
 | (apply Awp.cond; (case hc => (simp only [go_sem, *] <;> rfl)); all_goals (intro hg; (try simp only [Bool.not_true, Bool.not_false, reduceCtorEq] at hg)))
 | refine Awp.seq ?_)
      all_goals repeat' (first | exact Lower.bool (by first | rfl | (simp only [true_and, Bool.true_and, Bool.false_and, Bool.and_true, Bool.and_false, Bool.true_or, Bool.false_or, reduceIte, Bool.false_eq_true, *]; done) | (simp only [true_and, reduceIte, Bool.false_eq_true, *] <;> rfl) | (simp [true_and]; done) | (simp_all [true_and]; done) | omega))
theorem grows_ok (len wid : Int) (l : List Rc) (g : Int) (x : Rc) (hT : GoodT l g) (hx : Small x) : Pure Tryz.prog 65 [.v (.int .i64 len), .v (.int .i64 wid), .sl (rcs l), .v (.int .i64 g), x.av] (.v (.bool (growsR len wid l g x))) := by
  have c1 := rfree_ok len wid l g ⟨x.a - 1, x.b, x.c, x.d⟩ hT
  have c2 := rfree_ok len wid l g ⟨x.a, x.b - 1, x.c, x.d⟩ hT
  have c3 := rfree_ok len wid l g ⟨x.a, x.b, x.c + 1, x.d⟩ hT
  have c4 := rfree_ok len wid l g ⟨x.a, x.b, x.c, x.d + 1⟩ hT
  have w1 : IntKind.i64.wrap (x.a - 1) = x.a - 1 := wrap_i64 (by have := hx.a; omega) (by have := hx.a; omega)
  have w2 : IntKind.i64.wrap (x.b - 1) = x.b - 1 := wrap_i64 (by have := hx.b; omega) (by have := hx.b; omega)
  have w3 : IntKind.i64.wrap (x.c + 1) = x.c + 1 := wrap_i64 (by have := hx.c; omega) (by have := hx.c; omega)
  have w4 : IntKind.i64.wrap (x.d + 1) = x.d + 1 := wrap_i64 (by have := hx.d; omega) (by have := hx.d; omega)
  clear hT hx
  unfold growsR
  generalize freeR len wid l g ⟨x.a - 1, x.b, x.c, x.d⟩ = f1 at *
  generalize freeR len wid l g ⟨x.a, x.b - 1, x.c, x.d⟩ = f2 at *
  generalize freeR len wid l g ⟨x.a, x.b, x.c + 1, x.d⟩ = f3 at *
  generalize freeR len wid l g ⟨x.a, x.b, x.c, x.d + 1⟩ = f4 at *
  refine fn_pure Tryz.F65 (Nat.le_of_ble_eq_true rfl) ?_; unfold Tryz.ac65
  repeat' (first
 | (apply Awp.sreg; (case hn => (simp only [List.length_cons, List.length_nil, Nat.reduceAdd] <;> rfl)))
 | (apply Awp.sdraw; (case hn => (simp only [List.length_cons, List.length_nil, Nat.reduceAdd] <;> rfl)))
 | (refine st_nil ?_)
 | (apply st_a; (case hc => rfl); (case he => (simp only [go_sem, *] <;> rfl)); (case hu => (simp only [updL_nil, updL_cons] <;> rfl)); (case hp => first | trivial))
 | (apply st_m; (case hc => rfl); (case hg => (simp only [go_sem, *] <;> rfl)); (case he => (intro hQz; (try simp only [wantB_t, wantB_f, Bool.and_eq_true, Bool.not_eq_true', Bool.not_true, Bool.not_false, and_true, true_and] at hQz); simp only [go_sem, *] <;> rfl)); (case hp => (intro hQz; (try simp only [wantB_t, wantB_f, Bool.and_eq_true, Bool.not_eq_true', Bool.or_eq_false_iff, decide_eq_true_eq, decide_eq_false_iff_not, beq_iff_eq, beq_eq_false_iff_ne, bne_iff_ne, bne_eq_false_iff_eq, Int.not_lt, Int.not_le, Int.ofNat_lt, Int.ofNat_le] at hQz); first | trivial)))
 | (apply st_c; (case hc => (simp only [go_sem, *] <;> rfl)); (case hl => (simp only [go_sem, *] <;> rfl)); (case hn => (simp only [go_sem, *] <;> rfl)); (case hp => first | exact c1 | (have hXz := c1; simp only [go_sem, *] at hXz; exact hXz)))
 | (apply st_mc; (case hop => rfl); (case hg => (simp only [go_sem, *] <;> rfl)); (case hc => (intro hQz; (try simp only [wantB_t, wantB_f, Bool.and_eq_true, Bool.not_eq_true', Bool.not_true, Bool.not_false, and_true, true_and] at hQz); simp only [go_sem, *] <;> rfl)); (case hl => (intro hQz; (try simp only [wantB_t, wantB_f, Bool.and_eq_true, Bool.not_eq_true', Bool.not_true, Bool.not_false, and_true, true_and] at hQz); simp only [go_sem, *] <;> rfl)); (case hn => (intro hQz; (try simp only [wantB_t, wantB_f, Bool.and_eq_true, Bool.not_eq_true', Bool.not_true, Bool.not_false, and_true, true_and] at hQz); simp only [go_sem, *] <;> rfl)); (case hp => intro hQz; first | exact c2 | (have hXz := c2; simp only [go_sem, *] at hXz; exact hXz)))
 | (apply st_mc; (case hop => rfl); (case hg => (simp only [go_sem, *] <;> rfl)); (case hc => (intro hQz; (try simp only [wantB_t, wantB_f, Bool.and_eq_true, Bool.not_eq_true', Bool.not_true, Bool.not_false, and_true, true_and] at hQz); simp only [go_sem, *] <;> rfl)); (case hl => (intro hQz; (try simp only [wantB_t, wantB_f, Bool.and_eq_true, Bool.not_eq_true', Bool.not_true, Bool.not_false, and_true, true_and] at hQz); simp only [go_sem, *] <;> rfl)); (case hn => (intro hQz; (try simp only [wantB_t, wantB_f, Bool.and_eq_true, Bool.not_eq_true', Bool.not_true, Bool.not_false, and_true, true_and] at hQz); simp only [go_sem, *] <;> rfl)); (case hp => intro hQz; first | exact c3 | (have hXz := c3; simp only [go_sem, *] at hXz; exact hXz)))
 | (apply st_mc; (case hop => rfl); (case hg => (simp only [go_sem, *] <;> rfl)); (case hc => (intro hQz; (try simp only [wantB_t, wantB_f, Bool.and_eq_true, Bool.not_eq_true', Bool.not_true, Bool.not_false, and_true, true_and] at hQz); simp only [go_sem, *] <;> rfl)); (case hl => (intro hQz; (try simp only [wantB_t, wantB_f, Bool.and_eq_true, Bool.not_eq_true', Bool.not_true, Bool.not_false, and_true, true_and] at hQz); simp only [go_sem, *] <;> rfl)); (case hn => (intro hQz; (try simp only [wantB_t, wantB_f, Bool.and_eq_true, Bool.not_eq_true', Bool.not_true, Bool.not_false, and_true, true_and] at hQz); simp only [go_sem, *] <;> rfl)); (case hp => intro hQz; first | exact c4 | (have hXz := c4; simp only [go_sem, *] at hXz; exact hXz)))
 | (refine Awp.ret ?_; try simp only [go_sem, *])
 | (apply sl_a; (case hc => rfl); (case he => (simp only [go_sem, *] <;> rfl)); (case hu => (simp only [updL_nil, updL_cons] <;> rfl)); (case hl => (simp only [List.map_cons, List.map_nil] <;> rfl)); (case hp => first | trivial))
 | (refine sl_nil (And.intro (by first | exact drawOk_of (by decide +kernel) | (simp only [List.map_cons, List.map_nil]; exact drawOk_of (by decide +kernel)) | decide) ?_)))
  all_goals repeat' (first | exact Lower.bool (by first | rfl | (simp only [true_and, Bool.true_and, Bool.false_and, Bool.and_true, Bool.and_false, Bool.true_or, Bool.false_or, reduceIte, Bool.false_eq_true, *]; done) | (simp only [true_and, reduceIte, Bool.false_eq_true, *] <;> rfl) | (simp [true_and]; done) | (simp_all [true_and]; done) | omega))
theorem same_ok (l : List Rc) (hl : l.length < 1000000) : Pure Tryz.prog 10 [.sl (rcs l), .sl (rcs l)] (.v (.bool true)) := by
  have hne : ((l.length : Int) != (l.length : Int)) = false := by simp
  refine fn_pure Tryz.F10 (Nat.le_of_ble_eq_true rfl) ?_; unfold Tryz.ac10
  repeat' (first
 | (apply Awp.sreg; (case hn => (simp only [List.length_cons, List.length_nil, Nat.reduceAdd] <;> rfl)))
 | (refine st_nil ?_)
 | (apply st_a; (case hc => rfl); (case he => (simp only [go_sem, *] <;> rfl)); (case hu => (simp only [updL_nil, updL_cons] <;> rfl)); (case hp => first | trivial))
 | (refine Awp.skip ?_; try simp only [go_sem, *])
 | refine Awp.block ?_
 | (apply Awp.cond; (case hc => (simp only [go_sem, *] <;> rfl)); all_goals (intro hg; (try simp only [Bool.not_true, Bool.not_false, reduceCtorEq] at hg); (try have hg' := hg); (try simp only [decide_eq_true_eq, decide_eq_false_iff_not, Bool.and_eq_true, Bool.or_eq_false_iff, bne_iff_ne, bne_eq_false_iff_eq, beq_iff_eq, beq_eq_false_iff_ne, Int.not_lt, Int.not_le, Int.ofNat_lt, Int.ofNat_le, Int.natCast_inj] at hg')))
 | refine Awp.seq ?_)
  refine Awp.loop (fun i : Nat => i ≤ l.length) 60 (fun i => mkS [(0, .sl (rcs l)), (1, .sl (rcs l)), (5, .v (.int .i64 i))] []) (fun i => l.length - i) 0 (by omega) ?_ ?_
  · (apply Ghost.mk [] []; (case hdead => rfl); (case hinj => rfl); (case hV => (simp only [go_sem, *]) <;> (repeat' (first | exact View.int (by first | rfl | omega | (simp; done) | (rw [wrap_i64] <;> (try simp only [Int.natCast_add]) <;> omega) | (simp [*]; done))))); (case hB => (simp only [go_sem, *]) <;> (repeat' (first | skip; done))))
  · intro i hi
    by_cases hlt : i < l.length
    · have hlt' : (i : Int) < l.length := by omega
      have hat := rcs_at l i hlt
      have hz : ((l.getD i zeroRc).cells).length = 4 := rfl
      generalize l.getD i zeroRc = x at *
      have e1 : (x.a == x.a) = true := by simp
      have e2 : (x.b == x.b) = true := by simp
      have e3 : (x.c == x.c) = true := by simp
      have e4 : (x.d == x.d) = true := by simp
      repeat' (first
 | (apply Awp.sreg; (case hn => (simp only [List.length_cons, List.length_nil, Nat.reduceAdd] <;> rfl)))
 | (apply Awp.sdraw; (case hn => (simp only [List.length_cons, List.length_nil, Nat.reduceAdd] <;> rfl)))
 | (refine st_nil ?_)
 | (apply st_a; (case hc => rfl); (case he => (simp only [go_sem, *] <;> rfl)); (case hu => (simp only [updL_nil, updL_cons] <;> rfl)); (case hp => first | trivial))
 | (apply Awp.reg; (case hn => (simp only [List.length_cons, List.length_nil, Nat.reduceAdd] <;> rfl)))
 | (refine Awp.ret ?_; try simp only [go_sem, *])
 | (refine Awp.skip ?_; try simp only [go_sem, *])
 | refine Awp.block ?_
 | (apply Awp.cond; (case hc => (simp only [go_sem, *] <;> rfl)); all_goals (intro hg; (try simp only [Bool.not_true, Bool.not_false, reduceCtorEq] at hg)))
 | refine Awp.seq ?_
 | (apply sl_a; (case hc => rfl); (case he => (simp only [go_sem, *] <;> rfl)); (case hu => (simp only [updL_nil, updL_cons] <;> rfl)); (case hl => (simp only [List.map_cons, List.map_nil] <;> rfl)); (case hp => first | trivial | omega))
 | (refine sl_nil (And.intro (by first | exact drawOk_of (by decide +kernel) | (simp only [List.map_cons, List.map_nil]; exact drawOk_of (by decide +kernel)) | decide) ?_)))
      all_goals (try (exfalso; revert hg; simp; done))
      all_goals (refine ⟨i + 1, by omega, by omega, ?_⟩; (apply Ghost.mk [] []; (case hdead => rfl); (case hinj => rfl); (case hV => (simp only [go_sem, *]) <;> (repeat' (first | exact View.int (by first | rfl | omega | (simp; done) | (rw [wrap_i64] <;> (try simp only [Int.natCast_add]) <;> omega) | (simp [*]; done))))); (case hB => (simp only [go_sem, *]) <;> (repeat' (first | skip; done)))))
    · have hlt' : ¬ (i : Int) < l.length := by omega
      repeat' (first
 | (apply Awp.sreg; (case hn => (simp only [List.length_cons, List.length_nil, Nat.reduceAdd] <;> rfl)))
 | (refine st_nil ?_)
 | (apply st_a; (case hc => rfl); (case he => (simp only [go_sem, *] <;> rfl)); (case hu => (simp only [updL_nil, updL_cons] <;> rfl)); (case hp => first | trivial))
 | (refine Awp.ret ?_; try simp only [go_sem, *])
 | (refine Awp.exit ?_; try simp only [go_sem, *])
 | (apply Awp.cond; (case hc => (simp only [go_sem, *] <;> rfl)); all_goals (intro hg; (try simp only [Bool.not_true, Bool.not_false, reduceCtorEq] at hg)))
 | refine Awp.seq ?_)
      all_goals repeat' (first | exact Lower.bool (by first | rfl | (simp only [true_and, Bool.true_and, Bool.false_and, Bool.and_true, Bool.and_false, Bool.true_or, Bool.false_or, reduceIte, Bool.false_eq_true, *]; done) | (simp only [true_and, reduceIte, Bool.false_eq_true, *] <;> rfl) | (simp [true_and]; done) | (simp_all [true_and]; done) | omega))
theorem put_ok (l : List Int) (n most : Int) (hl : l.length < 1000000) : Pure Tryz.prog 63 [.sl (ints l), .v (.int .i64 n), .v (.int .i64 most)] (.sl (ints (putE l n most))) := by
  unfold putE
  cases h1 : (decide (n < 0) || decide (most < n))
  case true =>
    rw [if_pos rfl]
    refine fn_pure Tryz.F63 (Nat.le_of_ble_eq_true rfl) ?_; unfold Tryz.ac63
    repeat' (first
 | (apply Awp.sreg; (case hn => (simp only [List.length_cons, List.length_nil, Nat.reduceAdd] <;> rfl)))
 | (refine st_nil ?_)
 | (apply st_a; (case hc => rfl); (case he => (simp only [go_sem, *] <;> rfl)); (case hu => (simp only [updL_nil, updL_cons] <;> rfl)); (case hp => first | trivial))
 | (apply st_m; (case hc => rfl); (case hg => (simp only [go_sem, *] <;> rfl)); (case he => (intro hQz; (try simp only [wantB_t, wantB_f, Bool.and_eq_true, Bool.not_eq_true', Bool.not_true, Bool.not_false, and_true, true_and] at hQz); simp only [go_sem, *] <;> rfl)); (case hp => (intro hQz; (try simp only [wantB_t, wantB_f, Bool.and_eq_true, Bool.not_eq_true', Bool.or_eq_false_iff, decide_eq_true_eq, decide_eq_false_iff_not, beq_iff_eq, beq_eq_false_iff_ne, bne_iff_ne, bne_eq_false_iff_eq, Int.not_lt, Int.not_le, Int.ofNat_lt, Int.ofNat_le] at hQz); first | trivial)))
 | (refine Awp.ret ?_; try simp only [go_sem, *])
 | (apply Awp.cond; (case hc => (simp only [go_sem, *] <;> rfl)); all_goals (intro hg; (try simp only [Bool.not_true, Bool.not_false, reduceCtorEq] at hg)))
 | refine Awp.seq ?_)
    all_goals repeat' (first | exact Lower.slE' (by first | rfl | (simp only [true_and, Bool.true_and, Bool.false_and, Bool.and_true, Bool.and_false, Bool.true_or, Bool.false_or, reduceIte, Bool.false_eq_true, *]; done) | (simp only [true_and, reduceIte, Bool.false_eq_true, *] <;> rfl) | (simp [true_and]; done) | (simp_all [true_and]; done) | omega))
  rw [if_neg (by decide)]
  refine fn_pure Tryz.F63 (Nat.le_of_ble_eq_true rfl) ?_; unfold Tryz.ac63
  repeat' (first
 | (apply Awp.sreg; (case hn => (simp only [List.length_cons, List.length_nil, Nat.reduceAdd] <;> rfl)))
 | (refine st_nil ?_)
 | (apply st_a; (case hc => rfl); (case he => (simp only [go_sem, *] <;> rfl)); (case hu => (simp only [updL_nil, updL_cons] <;> rfl)); (case hp => first | trivial))
 | (apply st_m; (case hc => rfl); (case hg => (simp only [go_sem, *] <;> rfl)); (case he => (intro hQz; (try simp only [wantB_t, wantB_f, Bool.and_eq_true, Bool.not_eq_true', Bool.not_true, Bool.not_false, and_true, true_and] at hQz); simp only [go_sem, *] <;> rfl)); (case hp => (intro hQz; (try simp only [wantB_t, wantB_f, Bool.and_eq_true, Bool.not_eq_true', Bool.or_eq_false_iff, decide_eq_true_eq, decide_eq_false_iff_not, beq_iff_eq, beq_eq_false_iff_ne, bne_iff_ne, bne_eq_false_iff_eq, Int.not_lt, Int.not_le, Int.ofNat_lt, Int.ofNat_le] at hQz); first | trivial)))
 | (refine Awp.skip ?_; try simp only [go_sem, *])
 | refine Awp.block ?_
 | (apply Awp.cond; (case hc => (simp only [go_sem, *] <;> rfl)); all_goals (intro hg; (try simp only [Bool.not_true, Bool.not_false, reduceCtorEq] at hg)))
 | refine Awp.seq ?_)
  clear h1
  refine Awp.loop (fun i : Nat => i ≤ l.length ∧ ∀ j, j < i → (l.getD j 0 == n) = false) 60 (fun i => mkS [(0, .sl (ints l)), (1, .v (.int .i64 n)), (7, .own 0), (8, .v (.int .i64 i))] [(0, .row (ints (outQ n l i)) 1 3)]) (fun i => l.length - i) 0 (by simp) ?_ ?_
  · refine Ghost.trans (Ghost.name 7 1 3 rfl (by decide)) ?_
    have e1 : ints (outQ n l 0) = [] := rfl
    rw [e1]
    (apply Ghost.mk [(0, 10)] []; (case hdead => rfl); (case hinj => rfl); (case hV => (simp only [go_sem, *]) <;> (repeat' (first | refine And.intro ?_ ?_ | exact View.int (by first | rfl | omega | (simp; done) | (rw [wrap_i64] <;> (try simp only [Int.natCast_add]) <;> omega) | (simp [*]; done)) | exact .own rfl (by decide)))); (case hB => (simp only [go_sem, *]) <;> (repeat' (first | exact ⟨_, rfl, .rowE (by first | rfl | omega | (simp; done) | (rw [wrap_i64] <;> (try simp only [Int.natCast_add]) <;> omega) | (simp [*]; done))⟩))))
  · intro i ⟨hi, hj⟩
    by_cases hlt : i < l.length
    · have hlt' : (i : Int) < l.length := by omega
      have hat := ints_at l i hlt
      have hql := outQ_len n l i
      have hnx0 := fun h => ltSucc (P := fun j => (l.getD j 0 == n) = false) hj h
      have hany := fun h => any_in (p := fun x => x == n) (d := 0) hlt h
      clear hj
      cases he : (l.getD i 0 == n)
      · have hnx := hnx0 he
        clear hnx0 hany
        cases hc : cndQ n l i
        · have hst : outQ n l (i + 1) = outQ n l i ++ [l.getD i 0] := by rw [outQ, hc]; rfl
          unfold cndQ at hc
          cases h2 : decide (n < l.getD i 0)
          · rw [h2] at hc
            clear hc
            repeat' (first
 | (apply Awp.sreg; (case hn => (simp only [List.length_cons, List.length_nil, Nat.reduceAdd] <;> rfl)))
 | (refine st_nil ?_)
 | (apply st_a; (case hc => rfl); (case he => (simp only [go_sem, *] <;> rfl)); (case hu => (simp only [updL_nil, updL_cons] <;> rfl)); (case hp => first | trivial | omega | (simp; done) | (simp; omega)))
 | (apply st_m; (case hc => rfl); (case hg => (simp only [go_sem, *] <;> rfl)); (case he => (intro hQz; (try simp only [wantB_t, wantB_f, Bool.and_eq_true, Bool.not_eq_true', Bool.not_true, Bool.not_false, and_true, true_and] at hQz); simp only [go_sem, *] <;> rfl)); (case hp => (intro hQz; (try simp only [wantB_t, wantB_f, Bool.and_eq_true, Bool.not_eq_true', Bool.or_eq_false_iff, decide_eq_true_eq, decide_eq_false_iff_not, beq_iff_eq, beq_eq_false_iff_ne, bne_iff_ne, bne_eq_false_iff_eq, Int.not_lt, Int.not_le, Int.ofNat_lt, Int.ofNat_le] at hQz); first | trivial)))
 | (apply Awp.reg; (case hn => (simp only [List.length_cons, List.length_nil, Nat.reduceAdd] <;> rfl)))
 | (refine Awp.skip ?_; try simp only [go_sem, *])
 | refine Awp.block ?_
 | (apply Awp.cond; (case hc => (simp only [go_sem, *] <;> rfl)); all_goals (intro hg; (try simp only [Bool.not_true, Bool.not_false, reduceCtorEq] at hg)))
 | refine Awp.seq ?_)
            all_goals (refine ⟨i + 1, ⟨by omega, hnx⟩, by omega, ?_⟩; rw [hst, ← ints_snoc]; clear hnx hst; (apply Ghost.mk [(0, 95)] []; (case hdead => rfl); (case hinj => rfl); (case hV => (simp only [go_sem, *]) <;> (repeat' (first | refine And.intro ?_ ?_ | exact View.int (by first | rfl | omega | (simp; done) | (rw [wrap_i64] <;> (try simp only [Int.natCast_add]) <;> omega) | (simp [*]; done)) | exact .own rfl (by decide)))); (case hB => (simp only [go_sem, *]) <;> (repeat' (first | exact ⟨_, rfl, .rowE (by first | rfl | omega | (simp; done) | (rw [wrap_i64] <;> (try simp only [Int.natCast_add]) <;> omega) | (simp [*]; done))⟩)))))
          · rw [h2, Bool.true_and, Bool.or_eq_false_iff] at hc
            have hi0 : ¬ i = 0 := of_decide_eq_false hc.1
            have hat1 := ints_at l (i - 1) (by omega)
            have hw : IntKind.i64.wrap ((i : Int) - 1) = ((i - 1 : Nat) : Int) := by rw [wrap_i64 (by omega) (by omega)]; omega
            have hi1 : ((i : Int) == 0) = false := by rw [beq_eq_false_iff_ne]; omega
            have h3 := hc.2
            have hlt1 : ((i - 1 : Nat) : Int) < l.length := by omega
            clear hc
            repeat' (first
 | (apply Awp.sreg; (case hn => (simp only [List.length_cons, List.length_nil, Nat.reduceAdd] <;> rfl)))
 | (refine st_nil ?_)
 | (apply st_a; (case hc => rfl); (case he => (simp only [go_sem, *] <;> rfl)); (case hu => (simp only [updL_nil, updL_cons] <;> rfl)); (case hp => first | trivial | omega | (simp; done) | (simp; omega)))
 | (apply st_m; (case hc => rfl); (case hg => (simp only [go_sem, *] <;> rfl)); (case he => (intro hQz; (try simp only [wantB_t, wantB_f, Bool.and_eq_true, Bool.not_eq_true', Bool.not_true, Bool.not_false, and_true, true_and] at hQz); simp only [go_sem, *] <;> rfl)); (case hp => (intro hQz; (try simp only [wantB_t, wantB_f, Bool.and_eq_true, Bool.not_eq_true', Bool.or_eq_false_iff, decide_eq_true_eq, decide_eq_false_iff_not, beq_iff_eq, beq_eq_false_iff_ne, bne_iff_ne, bne_eq_false_iff_eq, Int.not_lt, Int.not_le, Int.ofNat_lt, Int.ofNat_le] at hQz); first | trivial | omega)))
 | (apply Awp.reg; (case hn => (simp only [List.length_cons, List.length_nil, Nat.reduceAdd] <;> rfl)))
 | (refine Awp.skip ?_; try simp only [go_sem, *])
 | refine Awp.block ?_
 | (apply Awp.cond; (case hc => (simp only [go_sem, *] <;> rfl)); all_goals (intro hg; (try simp only [Bool.not_true, Bool.not_false, reduceCtorEq] at hg)))
 | refine Awp.seq ?_)
            all_goals (refine ⟨i + 1, ⟨by omega, hnx⟩, by omega, ?_⟩; rw [hst, ← ints_snoc]; clear hnx hst; (apply Ghost.mk [(0, 95)] []; (case hdead => rfl); (case hinj => rfl); (case hV => (simp only [go_sem, *]) <;> (repeat' (first | refine And.intro ?_ ?_ | exact View.int (by first | rfl | omega | (simp; done) | (rw [wrap_i64] <;> (try simp only [Int.natCast_add]) <;> omega) | (simp [*]; done)) | exact .own rfl (by decide)))); (case hB => (simp only [go_sem, *]) <;> (repeat' (first | exact ⟨_, rfl, .rowE (by first | rfl | omega | (simp; done) | (rw [wrap_i64] <;> (try simp only [Int.natCast_add]) <;> omega) | (simp [*]; done))⟩)))))
        · have hst : outQ n l (i + 1) = outQ n l i ++ [n] ++ [l.getD i 0] := by rw [outQ, hc]; rfl
          unfold cndQ at hc
          rw [Bool.and_eq_true] at hc
          obtain ⟨h2, h3⟩ := hc
          have hln2 : (ints (outQ n l i) ++ [[AV.v (Value.int .i64 n)]]).length ≤ 2 * i + 1 := by simp [ints_len]; omega
          by_cases hi0 : i = 0
          · have h4 : ((i : Int) == 0) = true := by rw [beq_iff_eq]; omega
            clear h3 hi0
            repeat' (first
 | (apply Awp.sreg; (case hn => (simp only [List.length_cons, List.length_nil, Nat.reduceAdd] <;> rfl)))
 | (refine st_nil ?_)
 | (apply st_a; (case hc => rfl); (case he => (simp only [go_sem, *] <;> rfl)); (case hu => (simp only [updL_nil, updL_cons] <;> rfl)); (case hp => first | trivial | omega | (simp; done) | (simp; omega) | ((repeat' (refine And.intro ?_ ?_)) <;> first | trivial | assumption | omega | (simp; done) | (simp; omega) | (simp [*]; done))))
 | (apply st_m; (case hc => rfl); (case hg => (simp only [go_sem, *] <;> rfl)); (case he => (intro hQz; (try simp only [wantB_t, wantB_f, Bool.and_eq_true, Bool.not_eq_true', Bool.not_true, Bool.not_false, and_true, true_and] at hQz); simp only [go_sem, *] <;> rfl)); (case hp => (intro hQz; (try simp only [wantB_t, wantB_f, Bool.and_eq_true, Bool.not_eq_true', Bool.or_eq_false_iff, decide_eq_true_eq, decide_eq_false_iff_not, beq_iff_eq, beq_eq_false_iff_ne, bne_iff_ne, bne_eq_false_iff_eq, Int.not_lt, Int.not_le, Int.ofNat_lt, Int.ofNat_le] at hQz); first | trivial)))
 | (apply Awp.reg; (case hn => (simp only [List.length_cons, List.length_nil, Nat.reduceAdd] <;> rfl)))
 | (refine Awp.skip ?_; try simp only [go_sem, *])
 | refine Awp.block ?_
 | (apply Awp.cond; (case hc => (simp only [go_sem, *] <;> rfl)); all_goals (intro hg; (try simp only [Bool.not_true, Bool.not_false, reduceCtorEq] at hg)))
 | refine Awp.seq ?_)
            all_goals (refine ⟨i + 1, ⟨by omega, hnx⟩, by omega, ?_⟩; rw [hst, ← ints_snoc, ← ints_snoc]; clear hnx hst; (apply Ghost.mk [(0, 100)] []; (case hdead => rfl); (case hinj => rfl); (case hV => (simp only [go_sem, *]) <;> (repeat' (first | refine And.intro ?_ ?_ | exact View.int (by first | rfl | omega | (simp; done) | (rw [wrap_i64] <;> (try simp only [Int.natCast_add]) <;> omega) | (simp [*]; done)) | exact .own rfl (by decide)))); (case hB => (simp only [go_sem, *]) <;> (repeat' (first | exact ⟨_, rfl, .rowE (by first | rfl | omega | (simp; done) | (rw [wrap_i64] <;> (try simp only [Int.natCast_add]) <;> omega) | (simp [*]; done))⟩)))))
          · rw [decide_eq_false hi0, Bool.false_or] at h3
            have hat1 := ints_at l (i - 1) (by omega)
            have hw : IntKind.i64.wrap ((i : Int) - 1) = ((i - 1 : Nat) : Int) := by rw [wrap_i64 (by omega) (by omega)]; omega
            have hi1 : ((i : Int) == 0) = false := by rw [beq_eq_false_iff_ne]; omega
            have hlt1 : ((i - 1 : Nat) : Int) < l.length := by omega
            repeat' (first
 | (apply Awp.sreg; (case hn => (simp only [List.length_cons, List.length_nil, Nat.reduceAdd] <;> rfl)))
 | (refine st_nil ?_)
 | (apply st_a; (case hc => rfl); (case he => (simp only [go_sem, *] <;> rfl)); (case hu => (simp only [updL_nil, updL_cons] <;> rfl)); (case hp => first | trivial | omega | (simp; done) | (simp; omega) | ((repeat' (refine And.intro ?_ ?_)) <;> first | trivial | assumption | omega | (simp; done) | (simp; omega) | (simp [*]; done))))
 | (apply st_m; (case hc => rfl); (case hg => (simp only [go_sem, *] <;> rfl)); (case he => (intro hQz; (try simp only [wantB_t, wantB_f, Bool.and_eq_true, Bool.not_eq_true', Bool.not_true, Bool.not_false, and_true, true_and] at hQz); simp only [go_sem, *] <;> rfl)); (case hp => (intro hQz; (try simp only [wantB_t, wantB_f, Bool.and_eq_true, Bool.not_eq_true', Bool.or_eq_false_iff, decide_eq_true_eq, decide_eq_false_iff_not, beq_iff_eq, beq_eq_false_iff_ne, bne_iff_ne, bne_eq_false_iff_eq, Int.not_lt, Int.not_le, Int.ofNat_lt, Int.ofNat_le] at hQz); first | trivial | omega)))
 | (apply Awp.reg; (case hn => (simp only [List.length_cons, List.length_nil, Nat.reduceAdd] <;> rfl)))
 | (refine Awp.skip ?_; try simp only [go_sem, *])
 | refine Awp.block ?_
 | (apply Awp.cond; (case hc => (simp only [go_sem, *] <;> rfl)); all_goals (intro hg; (try simp only [Bool.not_true, Bool.not_false, reduceCtorEq] at hg)))
 | refine Awp.seq ?_)
            all_goals (refine ⟨i + 1, ⟨by omega, hnx⟩, by omega, ?_⟩; rw [hst, ← ints_snoc, ← ints_snoc]; clear hnx hst; (apply Ghost.mk [(0, 100)] []; (case hdead => rfl); (case hinj => rfl); (case hV => (simp only [go_sem, *]) <;> (repeat' (first | refine And.intro ?_ ?_ | exact View.int (by first | rfl | omega | (simp; done) | (rw [wrap_i64] <;> (try simp only [Int.natCast_add]) <;> omega) | (simp [*]; done)) | exact .own rfl (by decide)))); (case hB => (simp only [go_sem, *]) <;> (repeat' (first | exact ⟨_, rfl, .rowE (by first | rfl | omega | (simp; done) | (rw [wrap_i64] <;> (try simp only [Int.natCast_add]) <;> omega) | (simp [*]; done))⟩)))))
      · rw [if_pos (hany he)]
        clear hnx0 hany
        repeat' (first
 | (apply Awp.sreg; (case hn => (simp only [List.length_cons, List.length_nil, Nat.reduceAdd] <;> rfl)))
 | (refine st_nil ?_)
 | (apply st_a; (case hc => rfl); (case he => (simp only [go_sem, *] <;> rfl)); (case hu => (simp only [updL_nil, updL_cons] <;> rfl)); (case hp => first | trivial | omega))
 | (refine Awp.ret ?_; try simp only [go_sem, *])
 | (refine Awp.skip ?_; try simp only [go_sem, *])
 | refine Awp.block ?_
 | (apply Awp.cond; (case hc => (simp only [go_sem, *] <;> rfl)); all_goals (intro hg; (try simp only [Bool.not_true, Bool.not_false, reduceCtorEq] at hg)))
 | refine Awp.seq ?_)
        all_goals repeat' (first | exact Lower.slE' (by first | rfl | (simp only [true_and, Bool.true_and, Bool.false_and, Bool.and_true, Bool.and_false, Bool.true_or, Bool.false_or, reduceIte, Bool.false_eq_true, *]; done) | (simp only [true_and, reduceIte, Bool.false_eq_true, *] <;> rfl) | (simp [true_and]; done) | (simp_all [true_and]; done) | omega))
    · have hlt' : ¬ (i : Int) < l.length := by omega
      have hf := any_end (p := fun x => x == n) (d := 0) (Nat.le_of_not_lt hlt) hj
      have hie : i = l.length := by omega
      rw [hf, if_neg (by decide), hie]
      rw [hie] at hlt'
      have hql := outQ_len n l l.length
      clear hj hf hie hi hlt i
      unfold lastQ
      by_cases h0 : l.length = 0
      · rw [decide_eq_true h0, Bool.true_or, if_pos rfl, ← ints_snoc]
        have h0' : ((l.length : Int) == 0) = true := by rw [beq_iff_eq]; omega
        clear h0
        repeat' (first
 | (apply Awp.sreg; (case hn => (simp only [List.length_cons, List.length_nil, Nat.reduceAdd] <;> rfl)))
 | (refine st_nil ?_)
 | (apply st_a; (case hc => rfl); (case he => (simp only [go_sem, *] <;> rfl)); (case hu => (simp only [updL_nil, updL_cons] <;> rfl)); (case hp => first | trivial | (simp; done) | (simp; omega)))
 | (apply st_m; (case hc => rfl); (case hg => (simp only [go_sem, *] <;> rfl)); (case he => (intro hQz; (try simp only [wantB_t, wantB_f, Bool.and_eq_true, Bool.not_eq_true', Bool.not_true, Bool.not_false, and_true, true_and] at hQz); simp only [go_sem, *] <;> rfl)); (case hp => (intro hQz; (try simp only [wantB_t, wantB_f, Bool.and_eq_true, Bool.not_eq_true', Bool.or_eq_false_iff, decide_eq_true_eq, decide_eq_false_iff_not, beq_iff_eq, beq_eq_false_iff_ne, bne_iff_ne, bne_eq_false_iff_eq, Int.not_lt, Int.not_le, Int.ofNat_lt, Int.ofNat_le] at hQz); first | trivial)))
 | (apply Awp.reg; (case hn => (simp only [List.length_cons, List.length_nil, Nat.reduceAdd] <;> rfl)))
 | (refine Awp.ret ?_; try simp only [go_sem, *])
 | (refine Awp.exit ?_; try simp only [go_sem, *])
 | (apply Awp.cond; (case hc => (simp only [go_sem, *] <;> rfl)); all_goals (intro hg; (try simp only [Bool.not_true, Bool.not_false, reduceCtorEq] at hg)))
 | refine Awp.seq ?_)
        all_goals repeat' (first | exact Lower.ownE (by simp only [go_sem, *] <;> rfl) (by first | rfl | (simp only [true_and, Bool.true_and, Bool.false_and, Bool.and_true, Bool.and_false, Bool.true_or, Bool.false_or, reduceIte, Bool.false_eq_true, *]; done) | (simp only [true_and, reduceIte, Bool.false_eq_true, *] <;> rfl) | (simp [true_and]; done) | (simp_all [true_and]; done) | omega))
      · rw [decide_eq_false h0, Bool.false_or]
        have h0' : ((l.length : Int) == 0) = false := by rw [beq_eq_false_iff_ne]; omega
        have hw : IntKind.i64.wrap ((l.length : Int) - 1) = ((l.length - 1 : Nat) : Int) := by rw [wrap_i64 (by omega) (by omega)]; omega
        have hat1 := ints_at l (l.length - 1) (by omega)
        have hlt1 : ((l.length - 1 : Nat) : Int) < l.length := by omega
        cases h2 : decide (l.getD (l.length - 1) 0 < n)
        · rw [if_neg (by decide)]
          repeat' (first
 | (apply Awp.sreg; (case hn => (simp only [List.length_cons, List.length_nil, Nat.reduceAdd] <;> rfl)))
 | (refine st_nil ?_)
 | (apply st_a; (case hc => rfl); (case he => (simp only [go_sem, *] <;> rfl)); (case hu => (simp only [updL_nil, updL_cons] <;> rfl)); (case hp => first | trivial))
 | (apply st_m; (case hc => rfl); (case hg => (simp only [go_sem, *] <;> rfl)); (case he => (intro hQz; (try simp only [wantB_t, wantB_f, Bool.and_eq_true, Bool.not_eq_true', Bool.not_true, Bool.not_false, and_true, true_and] at hQz); simp only [go_sem, *] <;> rfl)); (case hp => (intro hQz; (try simp only [wantB_t, wantB_f, Bool.and_eq_true, Bool.not_eq_true', Bool.or_eq_false_iff, decide_eq_true_eq, decide_eq_false_iff_not, beq_iff_eq, beq_eq_false_iff_ne, bne_iff_ne, bne_eq_false_iff_eq, Int.not_lt, Int.not_le, Int.ofNat_lt, Int.ofNat_le] at hQz); first | trivial | omega)))
 | (refine Awp.ret ?_; try simp only [go_sem, *])
 | (refine Awp.skip ?_; try simp only [go_sem, *])
 | (refine Awp.exit ?_; try simp only [go_sem, *])
 | (apply Awp.cond; (case hc => (simp only [go_sem, *] <;> rfl)); all_goals (intro hg; (try simp only [Bool.not_true, Bool.not_false, reduceCtorEq] at hg)))
 | refine Awp.seq ?_)
          all_goals repeat' (first | exact Lower.ownE (by simp only [go_sem, *] <;> rfl) (by first | rfl | (simp only [true_and, Bool.true_and, Bool.false_and, Bool.and_true, Bool.and_false, Bool.true_or, Bool.false_or, reduceIte, Bool.false_eq_true, *]; done) | (simp only [true_and, reduceIte, Bool.false_eq_true, *] <;> rfl) | (simp [true_and]; done) | (simp_all [true_and]; done) | omega))
        · rw [if_pos rfl, ← ints_snoc]
          repeat' (first
 | (apply Awp.sreg; (case hn => (simp only [List.length_cons, List.length_nil, Nat.reduceAdd] <;> rfl)))
 | (refine st_nil ?_)
 | (apply st_a; (case hc => rfl); (case he => (simp only [go_sem, *] <;> rfl)); (case hu => (simp only [updL_nil, updL_cons] <;> rfl)); (case hp => first | trivial | (simp; done) | (simp; omega)))
 | (apply st_m; (case hc => rfl); (case hg => (simp only [go_sem, *] <;> rfl)); (case he => (intro hQz; (try simp only [wantB_t, wantB_f, Bool.and_eq_true, Bool.not_eq_true', Bool.not_true, Bool.not_false, and_true, true_and] at hQz); simp only [go_sem, *] <;> rfl)); (case hp => (intro hQz; (try simp only [wantB_t, wantB_f, Bool.and_eq_true, Bool.not_eq_true', Bool.or_eq_false_iff, decide_eq_true_eq, decide_eq_false_iff_not, beq_iff_eq, beq_eq_false_iff_ne, bne_iff_ne, bne_eq_false_iff_eq, Int.not_lt, Int.not_le, Int.ofNat_lt, Int.ofNat_le] at hQz); first | trivial | omega)))
 | (apply Awp.reg; (case hn => (simp only [List.length_cons, List.length_nil, Nat.reduceAdd] <;> rfl)))
 | (refine Awp.ret ?_; try simp only [go_sem, *])
 | (refine Awp.exit ?_; try simp only [go_sem, *])
 | (apply Awp.cond; (case hc => (simp only [go_sem, *] <;> rfl)); all_goals (intro hg; (try simp only [Bool.not_true, Bool.not_false, reduceCtorEq] at hg)))
 | refine Awp.seq ?_)
          all_goals repeat' (first | exact Lower.ownE (by simp only [go_sem, *] <;> rfl) (by first | rfl | (simp only [true_and, Bool.true_and, Bool.false_and, Bool.and_true, Bool.and_false, Bool.true_or, Bool.false_or, reduceIte, Bool.false_eq_true, *]; done) | (simp only [true_and, reduceIte, Bool.false_eq_true, *] <;> rfl) | (simp [true_and]; done) | (simp_all [true_and]; done) | omega))
end Go.Proofs
end
section
set_option linter.unusedVariables false
set_option linter.unusedSimpArgs false
namespace Go.Ab
open Go.RowKit

theorem Ghost.nameBoxAt {bs nx : Nat} {S : AState} (c i sz : Nat) (e : TypeId) {cs cs' : List AV} (hc : S.h c = some (.box cs)) (hi : i < cs.length) (hn : av cs i = .nils) (hcs : cs.set i (.own nx) = cs') (h0 : 0 < sz) : Ghost bs nx S (nx + 1) ⟨S.t, upd (upd S.h c (some (.box cs'))) nx (some (.row [] sz e))⟩ := by
  subst hcs
  intro E β a w hE s
  obtain ⟨g0, ty, xs, f1, f2, f3, f4, f5⟩ := s.bl c _ hc
  have hv := f5 i hi
  rw [hn] at hv
  obtain ⟨ad, hcv⟩ := hv.nils_inv
  have hβ : β nx = undef := s.fresh nx (Nat.le_refl _)
  have hcn : c ≠ nx := fun e => by subst e; exact (s.bl c _ hc).ne hβ
  have hg : Grows β (upd β nx (.slice ad 0 0)) := fun n hn => by
    unfold upd; split
    · rename_i h; subst h; exact absurd hβ hn
    · rfl
  have hb0 : ∀ g, blkOf (Value.slice ad 0 0) ≠ some g := fun g => by cases ad <;> simp [blkOf]
  have hs := s.step (fr' := fun k => nx + 1 ≤ k) (S' := ⟨S.t, upd (upd S.h c (some (.box (cs.set i (.own nx))))) nx (some (.row [] sz e))⟩) (β' := upd β nx (.slice ad 0 0)) (a' := a) (w' := w) (fun g => blkOf (β c) = some g) (fun g h => ⟨c, _, hc, h⟩) rfl rfl rfl (Nat.le_refl _) (fun _ _ _ => rfl) hg
    (fun n hn => by unfold upd; rw [if_neg (by omega)]; exact s.fresh n (by omega)) (fun n b hb => ?_) ?_ rfl s.df (fun hst => fun q => (s.tm q).mono hg hst)
  · exact ⟨_, hs⟩
  · simp only [upd] at hb
    split at hb
    · rename_i h; subst h
      simp only [Option.some.injEq] at hb; subst hb
      refine .inr ⟨fun _ => ?_, fun g hg => by simp only [upd, if_true] at hg; exact absurd hg (hb0 g)⟩
      simp only [upd, if_true]
      exact ⟨[], by simp, h0, .inl ⟨ad, rfl, rfl, rfl⟩, by simp, fun i j hi => by simp at hi⟩
    · rename_i hnn
      split at hb
      · rename_i h; subst h
        simp only [Option.some.injEq] at hb; subst hb
        refine .inr ⟨fun hst => ?_, fun g hg => .inr (by simp only [upd, if_neg hnn] at hg; exact hg)⟩
        simp only [upd, if_neg hnn]
        refine ⟨g0, ty, xs, f1, f2, by simpa using f3, f4, fun j hj => ?_⟩
        rw [List.length_set] at hj
        by_cases hji : j = i
        · subst hji
          rw [hcv]
          have e1 : av (cs.set j (.own nx)) j = .own nx := by simp [av, List.getD_eq_getElem?_getD, hi]
          rw [e1]
          exact .own nx (by simp [upd])
        · have e1 : av (cs.set i (.own nx)) j = av cs j := by simp [av, List.getD_eq_getElem?_getD, Ne.symm hji]
          rw [e1]
          exact (f5 j hj).mono hg (fun g h => ⟨hst g h, rfl⟩)
      · rename_i hnc
        refine .inl ⟨hb, fun g hg hg' => hnc (s.inj n c _ _ g hb hc hg hg')⟩
  · intro n m b1 b2 g h1 h2 g1 g2
    simp only [upd] at h1 h2 g1 g2
    by_cases e1 : n = nx
    · rw [if_pos e1] at g1; exact absurd g1 (hb0 g)
    · by_cases e2 : m = nx
      · rw [if_pos e2] at g2; exact absurd g2 (hb0 g)
      · simp only [if_neg e1, if_neg e2] at h1 h2 g1 g2
        have k1 : ∃ b, S.h n = some b := by
          split at h1
          · rename_i h; exact ⟨_, h ▸ hc⟩
          · exact ⟨_, h1⟩
        have k2 : ∃ b, S.h m = some b := by
          split at h2
          · rename_i h; exact ⟨_, h ▸ hc⟩
          · exact ⟨_, h2⟩
        obtain ⟨_, k1⟩ := k1
        obtain ⟨_, k2⟩ := k2
        exact s.inj n m _ _ g k1 k2 g1 g2
theorem BView.own3 {hd : Nat → Option Blk} {ρ : Nat → Nat} {nx b n : Nat} {x y : AV} (hx : x.flat = true) (hy : y.flat = true) (hb : ρ n = b) (hn : n < nx) : BView hd ρ nx (.box [x, y, .own b]) (.box [x, y, .own n]) :=
  .box rfl fun j hj => by match j, hj with | 0, _ => exact .low (.same _ hx) | 1, _ => exact .low (.same _ hy) | 2, _ => exact .own hb hn
end Go.Ab
end
section
set_option linter.unusedVariables false
set_option linter.unusedSimpArgs false
namespace Go.Proofs
open Go Go.Ab
set_option maxHeartbeats 8000000
set_option maxRecDepth 100000
attribute [local irreducible] Awp aops aopsL Go.Ab.Pure PureOwn

@[go_sem] theorem Tryz.co66 : Tryz.prog.cellsOf 66 = 3 := by kernel_rfl
@[go_sem] theorem Tryz.ag66 : isAggB Tryz.prog 66 = true := by kernel_rfl
theorem tkE_no (g : Int) (l : List Rc) (i : Nat) (h : i < l.length) (hs : solid (enl g (l.getD i zeroRc)) = false) : tkE g (l.take (i + 1)) = tkE g (l.take i) := by
  unfold tkE
  rw [take_snoc l zeroRc i h, List.map_append, List.filter_append]
  generalize l.getD i zeroRc = t at *
  simp [hs]
theorem tkE_yes (g : Int) (l : List Rc) (i : Nat) (h : i < l.length) (hs : solid (enl g (l.getD i zeroRc)) = true) : tkE g (l.take (i + 1)) = tkE g (l.take i) ++ [enl g (l.getD i zeroRc)] := by
  unfold tkE
  rw [take_snoc l zeroRc i h, List.map_append, List.filter_append]
  generalize l.getD i zeroRc = t at *
  simp [hs]
theorem tkE_len (g : Int) (l : List Rc) : (tkE g l).length ≤ l.length := by
  unfold tkE
  exact Nat.le_trans (List.length_filter_le _ _) (by simp)
def plAv (len wid : Int) (tk : List Rc) : AV := .agg [.v (.int .i64 len), .v (.int .i64 wid), .sl (rcs tk)]
attribute [go_sem] plAv
theorem newPlate_ok (len wid : Int) (l : List Rc) (g : Int) (hT : GoodT l g) : Pure Tryz.prog 20 [.v (.int .i64 len), .v (.int .i64 wid), .sl (rcs l), .v (.int .i64 g)] (plAv len wid (tkE g l)) := by
  have hl := hT.few
  have hg := hT.g
  have hok := hT.ok
  clear hT
  refine fn_pure Tryz.F20 (Nat.le_of_ble_eq_true rfl) ?_; unfold Tryz.ac20
  repeat' (first
 | (apply Awp.sreg; (case hn => (simp only [List.length_cons, List.length_nil, Nat.reduceAdd] <;> rfl)))
 | (refine st_nil ?_)
 | (apply st_a; (case hc => rfl); (case he => (simp only [go_sem, *] <;> rfl)); (case hu => (simp only [updL_nil, updL_cons] <;> rfl)); (case hp => first | trivial))
 | refine Awp.block ?_
 | refine Awp.seq ?_)
  refine Awp.loop (fun i : Nat => i ≤ l.length) 80 (fun i => mkS [(3, .v (.int .i64 g)), (8, .bp 0 0), (9, .bp 1 0), (15, .sl (rcs l)), (16, .v (.int .i64 l.length)), (17, .v (.int .i64 i))] [(0, .box [.v (.int .i64 0), .v (.int .i64 0), .nils]), (1, .box [.v (.int .i64 len), .v (.int .i64 wid), .own 2]), (2, .row (rcs (tkE g (l.take i))) 4 54)]) (fun i => l.length - i) 0 (by omega) ?_ ?_
  · refine Ghost.trans (Ghost.nameBoxAt 4 2 4 54 rfl (Nat.le_of_ble_eq_true rfl) rfl rfl (by decide)) ?_
    have e1 : rcs (tkE g (l.take 0)) = [] := rfl
    rw [e1]
    clear hok
    (apply Ghost.mk [(0, 0), (1, 4), (2, 9)] []; (case hdead => rfl); (case hinj => rfl); (case hV => (simp only [go_sem, *]) <;> (repeat' (first | refine And.intro ?_ ?_ | exact View.int (by first | rfl | omega | (simp; done) | (rw [wrap_i64] <;> (try simp only [Int.natCast_add]) <;> omega) | (simp [*]; done)) | exact .bp rfl (by decide)))); (case hB => (simp only [go_sem, *]) <;> (repeat' (first | refine And.intro ?_ ?_ | exact ⟨_, rfl, BView.own3 rfl rfl rfl (by decide)⟩ | exact ⟨_, rfl, BView.boxF rfl⟩ | exact ⟨_, rfl, .rowE (by first | rfl | omega | (simp; done) | (rw [wrap_i64] <;> (try simp only [Int.natCast_add]) <;> omega) | (simp [*]; done))⟩))))
  · intro i hi
    by_cases hlt : i < l.length
    · have hlt' : (i : Int) < l.length := by omega
      have hat := rcs_at l i hlt
      have hz : ((l.getD i zeroRc).cells).length = 4 := rfl
      have hB := bad_no (hok i hlt)
      have hno := tkE_no g l i hlt
      have hye := tkE_yes g l i hlt
      have hln := tkE_len g (l.take i)
      rw [List.length_take] at hln
      clear hok
      generalize l.getD i zeroRc = t at *
      have w1 : IntKind.i64.wrap (t.a - g) = t.a - g := wrap_i64 (by omega) (by omega)
      have w2 : IntKind.i64.wrap (t.b - g) = t.b - g := wrap_i64 (by omega) (by omega)
      have w3 : IntKind.i64.wrap (t.c + g) = t.c + g := wrap_i64 (by omega) (by omega)
      have w4 : IntKind.i64.wrap (t.d + g) = t.d + g := wrap_i64 (by omega) (by omega)
      clear hB
      cases hv : solid (enl g t)
      · have hno := hno hv
        clear hye
        unfold solid enl at hv
        simp only [] at hv
        repeat' (first
 | (apply Awp.sreg; (case hn => (simp only [List.length_cons, List.length_nil, Nat.reduceAdd] <;> rfl)))
 | (refine st_nil ?_)
 | (apply st_a; (case hc => rfl); (case he => (simp only [go_sem, *] <;> rfl)); (case hu => (simp only [updL_nil, updL_cons] <;> rfl)); (case hp => first | trivial | omega))
 | (apply st_m; (case hc => rfl); (case hg => (simp only [go_sem, *] <;> rfl)); (case he => (intro hQz; (try simp only [wantB_t, wantB_f, Bool.and_eq_true, Bool.not_eq_true', Bool.not_true, Bool.not_false, and_true, true_and] at hQz); simp only [go_sem, *] <;> rfl)); (case hp => (intro hQz; (try simp only [wantB_t, wantB_f, Bool.and_eq_true, Bool.not_eq_true', Bool.or_eq_false_iff, decide_eq_true_eq, decide_eq_false_iff_not, beq_iff_eq, beq_eq_false_iff_ne, bne_iff_ne, bne_eq_false_iff_eq, Int.not_lt, Int.not_le, Int.ofNat_lt, Int.ofNat_le] at hQz); first | trivial)))
 | (apply Awp.reg; (case hn => (simp only [List.length_cons, List.length_nil, Nat.reduceAdd] <;> rfl)))
 | (refine Awp.skip ?_; try simp only [go_sem, *])
 | refine Awp.block ?_
 | (apply Awp.cond; (case hc => (simp only [go_sem, *] <;> rfl)); all_goals (intro hg; (try simp only [Bool.not_true, Bool.not_false, reduceCtorEq] at hg)))
 | refine Awp.seq ?_)
        all_goals (refine ⟨i + 1, by omega, by omega, ?_⟩; rw [hno]; clear hno; (apply Ghost.mk [(0, 0), (1, 1), (2, 2)] []; (case hdead => rfl); (case hinj => rfl); (case hV => (simp only [go_sem, *]) <;> (repeat' (first | refine And.intro ?_ ?_ | exact View.int (by first | rfl | omega | (simp; done) | (rw [wrap_i64] <;> (try simp only [Int.natCast_add]) <;> omega) | (simp [*]; done)) | exact .bp rfl (by decide)))); (case hB => (simp only [go_sem, *]) <;> (repeat' (first | refine And.intro ?_ ?_ | exact ⟨_, rfl, BView.own3 rfl rfl rfl (by decide)⟩ | exact ⟨_, rfl, BView.boxF rfl⟩ | exact ⟨_, rfl, .rowE (by first | rfl | omega | (simp; done) | (rw [wrap_i64] <;> (try simp only [Int.natCast_add]) <;> omega) | (simp [*]; done))⟩)))))
      · have hye := hye hv
        clear hno
        unfold solid enl at hv
        simp only [] at hv
        have e1 := rcs_snocC (tkE g (l.take i)) (enl g t)
        unfold enl at e1 hye
        repeat' (first
 | (apply Awp.sreg; (case hn => (simp only [List.length_cons, List.length_nil, Nat.reduceAdd] <;> rfl)))
 | (refine st_nil ?_)
 | (apply st_a; (case hc => rfl); (case he => (simp only [go_sem, *] <;> rfl)); (case hu => (simp only [updL_nil, updL_cons] <;> rfl)); (case hp => first | trivial | omega | (simp; done) | (simp; omega)))
 | (apply st_m; (case hc => rfl); (case hg => (simp only [go_sem, *] <;> rfl)); (case he => (intro hQz; (try simp only [wantB_t, wantB_f, Bool.and_eq_true, Bool.not_eq_true', Bool.not_true, Bool.not_false, and_true, true_and] at hQz); simp only [go_sem, *] <;> rfl)); (case hp => (intro hQz; (try simp only [wantB_t, wantB_f, Bool.and_eq_true, Bool.not_eq_true', Bool.or_eq_false_iff, decide_eq_true_eq, decide_eq_false_iff_not, beq_iff_eq, beq_eq_false_iff_ne, bne_iff_ne, bne_eq_false_iff_eq, Int.not_lt, Int.not_le, Int.ofNat_lt, Int.ofNat_le] at hQz); first | trivial)))
 | (apply Awp.reg; (case hn => (simp only [List.length_cons, List.length_nil, Nat.reduceAdd] <;> rfl)))
 | (refine Awp.skip ?_; try simp only [go_sem, *])
 | refine Awp.block ?_
 | (apply Awp.cond; (case hc => (simp only [go_sem, *] <;> rfl)); all_goals (intro hg; (try simp only [Bool.not_true, Bool.not_false, reduceCtorEq] at hg)))
 | refine Awp.seq ?_)
        all_goals (refine ⟨i + 1, by omega, by omega, ?_⟩; rw [hye, ← e1]; clear hye e1; (apply Ghost.mk [(0, 0), (1, 1), (2, 137)] []; (case hdead => rfl); (case hinj => rfl); (case hV => (simp only [go_sem, *]) <;> (repeat' (first | refine And.intro ?_ ?_ | exact View.int (by first | rfl | omega | (simp; done) | (rw [wrap_i64] <;> (try simp only [Int.natCast_add]) <;> omega) | (simp [*]; done)) | exact .bp rfl (by decide)))); (case hB => (simp only [go_sem, *]) <;> (repeat' (first | refine And.intro ?_ ?_ | exact ⟨_, rfl, BView.own3 rfl rfl rfl (by decide)⟩ | exact ⟨_, rfl, BView.boxF rfl⟩ | exact ⟨_, rfl, .rowE (by first | rfl | omega | (simp; done) | (rw [wrap_i64] <;> (try simp only [Int.natCast_add]) <;> omega) | (simp [*]; done))⟩)))))
    · have hlt' : ¬ (i : Int) < l.length := by omega
      have hie : i = l.length := by omega
      subst hie
      rw [List.take_length]
      repeat' (first
 | (apply Awp.sreg; (case hn => (simp only [List.length_cons, List.length_nil, Nat.reduceAdd] <;> rfl)))
 | (refine st_nil ?_)
 | (apply st_a; (case hc => rfl); (case he => (simp only [go_sem, *] <;> rfl)); (case hu => (simp only [updL_nil, updL_cons] <;> rfl)); (case hp => first | trivial))
 | (refine Awp.ret ?_; try simp only [go_sem, *])
 | (refine Awp.exit ?_; try simp only [go_sem, *])
 | (apply Awp.cond; (case hc => (simp only [go_sem, *] <;> rfl)); all_goals (intro hg; (try simp only [Bool.not_true, Bool.not_false, reduceCtorEq] at hg)))
 | refine Awp.seq ?_)
      all_goals repeat' (first | exact Lower.int (by first | rfl | (simp only [true_and, Bool.true_and, Bool.false_and, Bool.and_true, Bool.and_false, Bool.true_or, Bool.false_or, reduceIte, Bool.false_eq_true, *]; done) | (simp only [true_and, reduceIte, Bool.false_eq_true, *] <;> rfl) | (simp [true_and]; done) | (simp_all [true_and]; done) | omega) | exact Lower.ownE (by simp only [go_sem, *] <;> rfl) (by first | rfl | (simp only [true_and, Bool.true_and, Bool.false_and, Bool.and_true, Bool.and_false, Bool.true_or, Bool.false_or, reduceIte, Bool.false_eq_true, *]; done) | (simp only [true_and, reduceIte, Bool.false_eq_true, *] <;> rfl) | (simp [true_and]; done) | (simp_all [true_and]; done) | omega) | refine Lower.aggF ?_ | refine All2.cons ?_ ?_ | exact All2.nil)
theorem meet1_ok (r t : Rc) : Pure Tryz.prog 45 [t.av, .rp r.cells] (.v (.bool (meetB r t))) := by
  have c0 := meet_ok r t
  refine fn_pure Tryz.F45 (Nat.le_of_ble_eq_true rfl) ?_; unfold Tryz.ac45
  repeat' (first
 | (apply Awp.sreg; (case hn => (simp only [List.length_cons, List.length_nil, Nat.reduceAdd] <;> rfl)))
 | (refine st_nil ?_)
 | (apply st_a; (case hc => rfl); (case he => (simp only [go_sem, *] <;> rfl)); (case hu => (simp only [updL_nil, updL_cons] <;> rfl)); (case hp => first | trivial))
 | (apply st_c; (case hc => (simp only [go_sem, *] <;> rfl)); (case hl => (simp only [go_sem, *] <;> rfl)); (case hn => (simp only [go_sem, *] <;> rfl)); (case hp => first | exact c0 | (have hXz := c0; simp only [go_sem, *] at hXz; exact hXz)))
 | (refine Awp.ret ?_; try simp only [go_sem, *]))
  all_goals repeat' (first | exact Lower.bool (by first | rfl | (simp only [true_and, Bool.true_and, Bool.false_and, Bool.and_true, Bool.and_false, Bool.true_or, Bool.false_or, reduceIte, Bool.false_eq_true, *]; done) | (simp only [true_and, reduceIte, Bool.false_eq_true, *] <;> rfl) | (simp [true_and]; done) | (simp_all [true_and]; done) | omega))
theorem indexRc_ok (l : List Rc) (g : Nat) (cs : List AV) (p : Rc → Bool) (hl : l.length < 1000000) (hp : ∀ x : Rc, Pure Tryz.prog g [x.av, .rp cs] (.v (.bool (p x)))) :
    Pure Tryz.prog 69 [.sl (rcs l), .fn g [.rp cs]] (.v (.int .i64 (idxF p l))) := by
  refine fn_pure Tryz.F69 (Nat.le_of_ble_eq_true rfl) ?_; unfold Tryz.ac69
  repeat' (first
 | (apply Awp.sreg; (case hn => (simp only [List.length_cons, List.length_nil, Nat.reduceAdd] <;> rfl)))
 | (refine st_nil ?_)
 | (apply st_a; (case hc => rfl); (case he => (simp only [go_sem, *] <;> rfl)); (case hu => (simp only [updL_nil, updL_cons] <;> rfl)); (case hp => first | trivial))
 | refine Awp.block ?_
 | refine Awp.seq ?_)
  refine Awp.loop (fun i : Nat => i ≤ l.length ∧ ∀ j, j < i → p (l.getD j zeroRc) = false) 40 (fun i => mkS [(0, .sl (rcs l)), (1, .fn g [.rp cs]), (7, .v (.int .i64 l.length)), (8, .v (.int .i64 i))] []) (fun i => l.length - i) 0 (by simp) ?_ ?_
  · (apply Ghost.mk [] []; (case hdead => rfl); (case hinj => rfl); (case hV => (simp only [go_sem, *]) <;> (repeat' (first | refine And.intro ?_ ?_ | exact View.int (by first | rfl | omega | (simp; done) | (rw [wrap_i64] <;> (try simp only [Int.natCast_add]) <;> omega) | (simp [*]; done)) | (refine View.fnF ?_; (simp [AV.flat]; done))))); (case hB => (simp only [go_sem, *]) <;> (repeat' (first | skip; done))))
  · intro i ⟨hi, hj⟩
    by_cases hlt : i < l.length
    · have hlt' : (i : Int) < l.length := by omega
      have hat := rcs_at l i hlt
      have hz : ((l.getD i zeroRc).cells).length = 4 := rfl
      have hpi := hp (l.getD i zeroRc)
      repeat' (first
 | (apply Awp.sreg; (case hn => (simp only [List.length_cons, List.length_nil, Nat.reduceAdd] <;> rfl)))
 | (refine st_nil ?_)
 | (apply st_a; (case hc => rfl); (case he => (simp only [go_sem, *] <;> rfl)); (case hu => (simp only [updL_nil, updL_cons] <;> rfl)); (case hp => first | trivial | omega))
 | (apply st_c; (case hc => (simp only [go_sem, *] <;> rfl)); (case hl => (simp only [go_sem, *] <;> rfl)); (case hn => (simp only [go_sem, *] <;> rfl)); (case hp => first | exact hpi | (have hXz := hpi; simp only [go_sem, *] at hXz; exact hXz)))
 | (apply Awp.reg; (case hn => (simp only [List.length_cons, List.length_nil, Nat.reduceAdd] <;> rfl)))
 | (refine Awp.ret ?_; try simp only [go_sem, *])
 | (refine Awp.skip ?_; try simp only [go_sem, *])
 | refine Awp.block ?_
 | (apply Awp.cond; (case hc => (simp only [go_sem, *] <;> rfl)); all_goals (intro hg; (try simp only [Bool.not_true, Bool.not_false, reduceCtorEq] at hg)))
 | refine Awp.seq ?_)
      · exact Lower.int (idxF_in hlt hg hj).symm
      · refine ⟨i + 1, ⟨by omega, ltSucc hj hg⟩, by omega, ?_⟩
        (apply Ghost.mk [] []; (case hdead => rfl); (case hinj => rfl); (case hV => (simp only [go_sem, *]) <;> (repeat' (first | refine And.intro ?_ ?_ | exact View.int (by first | rfl | omega | (simp; done) | (rw [wrap_i64] <;> (try simp only [Int.natCast_add]) <;> omega) | (simp [*]; done)) | (refine View.fnF ?_; (simp [AV.flat]; done))))); (case hB => (simp only [go_sem, *]) <;> (repeat' (first | skip; done))))
    · have hlt' : ¬ (i : Int) < l.length := by omega
      repeat' (first
 | (apply Awp.sreg; (case hn => (simp only [List.length_cons, List.length_nil, Nat.reduceAdd] <;> rfl)))
 | (refine st_nil ?_)
 | (apply st_a; (case hc => rfl); (case he => (simp only [go_sem, *] <;> rfl)); (case hu => (simp only [updL_nil, updL_cons] <;> rfl)); (case hp => first | trivial))
 | (refine Awp.ret ?_; try simp only [go_sem, *])
 | (refine Awp.exit ?_; try simp only [go_sem, *])
 | (apply Awp.cond; (case hc => (simp only [go_sem, *] <;> rfl)); all_goals (intro hg; (try simp only [Bool.not_true, Bool.not_false, reduceCtorEq] at hg); (try have hg' := hg); (try simp only [decide_eq_true_eq, decide_eq_false_iff_not, Bool.and_eq_true, Bool.or_eq_false_iff, bne_iff_ne, bne_eq_false_iff_eq, beq_iff_eq, beq_eq_false_iff_ne, Int.not_lt, Int.not_le, Int.ofNat_lt, Int.ofNat_le, Int.natCast_inj] at hg')))
 | refine Awp.seq ?_)
      exact Lower.int (idxF_out (Nat.le_of_not_lt hlt) hj).symm
theorem containsRc_ok (l : List Rc) (g : Nat) (cs : List AV) (p : Rc → Bool) (hl : l.length < 1000000) (hp : ∀ x : Rc, Pure Tryz.prog g [x.av, .rp cs] (.v (.bool (p x)))) :
    Pure Tryz.prog 44 [.sl (rcs l), .fn g [.rp cs]] (.v (.bool (l.any p))) := by
  have h := indexRc_ok l g cs p hl hp
  rw [← idxF_any]
  refine fn_pure Tryz.F44 (Nat.le_of_ble_eq_true rfl) ?_; unfold Tryz.ac44
  repeat' (first
 | (apply Awp.sreg; (case hn => (simp only [List.length_cons, List.length_nil, Nat.reduceAdd] <;> rfl)))
 | (refine st_nil ?_)
 | (apply st_a; (case hc => rfl); (case he => (simp only [go_sem, *] <;> rfl)); (case hu => (simp only [updL_nil, updL_cons] <;> rfl)); (case hp => first | trivial))
 | (apply st_c; (case hc => (simp only [go_sem, *] <;> rfl)); (case hl => (simp only [go_sem, *] <;> rfl)); (case hn => (simp only [go_sem, *] <;> rfl)); (case hp => first | exact h | (have hXz := h; simp only [go_sem, *] at hXz; exact hXz)))
 | (refine Awp.ret ?_; try simp only [go_sem, *]))
  all_goals repeat' (first | exact Lower.bool (by first | rfl | (simp only [true_and, Bool.true_and, Bool.false_and, Bool.and_true, Bool.and_false, Bool.true_or, Bool.false_or, reduceIte, Bool.false_eq_true, *]; done) | (simp only [true_and, reduceIte, Bool.false_eq_true, *] <;> rfl) | (simp [true_and]; done) | (simp_all [true_and]; done) | omega))
theorem free_ok (len wid : Int) (tk : List Rc) (r : Rc) (hl : tk.length < 1000000) : Pure Tryz.prog 23 [plAv len wid tk, r.av] (.v (.bool (freeC len tk r))) := by
  have h := containsRc_ok tk 45 r.cells (meetB r) hl (meet1_ok r)
  unfold freeC
  cases h1 : decide (0 ≤ r.a)
  · refine fn_pure Tryz.F23 (Nat.le_of_ble_eq_true rfl) ?_; unfold Tryz.ac23
    repeat' (first
 | (apply Awp.sreg; (case hn => (simp only [List.length_cons, List.length_nil, Nat.reduceAdd] <;> rfl)))
 | (refine st_nil ?_)
 | (apply st_a; (case hc => rfl); (case he => (simp only [go_sem, *] <;> rfl)); (case hu => (simp only [updL_nil, updL_cons] <;> rfl)); (case hp => first | trivial))
 | (apply st_m; (case hc => rfl); (case hg => (simp only [go_sem, *] <;> rfl)); (case he => (intro hQz; (try simp only [wantB_t, wantB_f, Bool.and_eq_true, Bool.not_eq_true', Bool.not_true, Bool.not_false, and_true, true_and] at hQz); simp only [go_sem, *] <;> rfl)); (case hp => (intro hQz; (try simp only [wantB_t, wantB_f, Bool.and_eq_true, Bool.not_eq_true', Bool.or_eq_false_iff, decide_eq_true_eq, decide_eq_false_iff_not, beq_iff_eq, beq_eq_false_iff_ne, bne_iff_ne, bne_eq_false_iff_eq, Int.not_lt, Int.not_le, Int.ofNat_lt, Int.ofNat_le] at hQz); first | trivial)))
 | (apply st_g; (case hv => (simp only [go_sem, *] <;> rfl)); all_goals (intro hg; (try simp only [Bool.not_true, Bool.not_false, reduceCtorEq] at hg)))
 | (refine Awp.ret ?_; try simp only [go_sem, *]))
    all_goals repeat' (first | exact Lower.bool (by first | rfl | (simp only [true_and, Bool.true_and, Bool.false_and, Bool.and_true, Bool.and_false, Bool.true_or, Bool.false_or, reduceIte, Bool.false_eq_true, *]; done) | (simp only [true_and, reduceIte, Bool.false_eq_true, *] <;> rfl) | (simp [true_and]; done) | (simp_all [true_and]; done) | omega))
  · cases h2 : decide (r.c ≤ len)
    · refine fn_pure Tryz.F23 (Nat.le_of_ble_eq_true rfl) ?_; unfold Tryz.ac23
      repeat' (first
 | (apply Awp.sreg; (case hn => (simp only [List.length_cons, List.length_nil, Nat.reduceAdd] <;> rfl)))
 | (refine st_nil ?_)
 | (apply st_a; (case hc => rfl); (case he => (simp only [go_sem, *] <;> rfl)); (case hu => (simp only [updL_nil, updL_cons] <;> rfl)); (case hp => first | trivial))
 | (apply st_m; (case hc => rfl); (case hg => (simp only [go_sem, *] <;> rfl)); (case he => (intro hQz; (try simp only [wantB_t, wantB_f, Bool.and_eq_true, Bool.not_eq_true', Bool.not_true, Bool.not_false, and_true, true_and] at hQz); simp only [go_sem, *] <;> rfl)); (case hp => (intro hQz; (try simp only [wantB_t, wantB_f, Bool.and_eq_true, Bool.not_eq_true', Bool.or_eq_false_iff, decide_eq_true_eq, decide_eq_false_iff_not, beq_iff_eq, beq_eq_false_iff_ne, bne_iff_ne, bne_eq_false_iff_eq, Int.not_lt, Int.not_le, Int.ofNat_lt, Int.ofNat_le] at hQz); first | trivial)))
 | (apply st_g; (case hv => (simp only [go_sem, *] <;> rfl)); all_goals (intro hg; (try simp only [Bool.not_true, Bool.not_false, reduceCtorEq] at hg)))
 | (refine Awp.ret ?_; try simp only [go_sem, *]))
      all_goals repeat' (first | exact Lower.bool (by first | rfl | (simp only [true_and, Bool.true_and, Bool.false_and, Bool.and_true, Bool.and_false, Bool.true_or, Bool.false_or, reduceIte, Bool.false_eq_true, *]; done) | (simp only [true_and, reduceIte, Bool.false_eq_true, *] <;> rfl) | (simp [true_and]; done) | (simp_all [true_and]; done) | omega))
    · refine fn_pure Tryz.F23 (Nat.le_of_ble_eq_true rfl) ?_; unfold Tryz.ac23
      repeat' (first
 | (apply Awp.sreg; (case hn => (simp only [List.length_cons, List.length_nil, Nat.reduceAdd] <;> rfl)))
 | (refine st_nil ?_)
 | (apply st_a; (case hc => rfl); (case he => (simp only [go_sem, *] <;> rfl)); (case hu => (simp only [updL_nil, updL_cons] <;> rfl)); (case hp => first | trivial))
 | (apply st_m; (case hc => rfl); (case hg => (simp only [go_sem, *] <;> rfl)); (case he => (intro hQz; (try simp only [wantB_t, wantB_f, Bool.and_eq_true, Bool.not_eq_true', Bool.not_true, Bool.not_false, and_true, true_and] at hQz); simp only [go_sem, *] <;> rfl)); (case hp => (intro hQz; (try simp only [wantB_t, wantB_f, Bool.and_eq_true, Bool.not_eq_true', Bool.or_eq_false_iff, decide_eq_true_eq, decide_eq_false_iff_not, beq_iff_eq, beq_eq_false_iff_ne, bne_iff_ne, bne_eq_false_iff_eq, Int.not_lt, Int.not_le, Int.ofNat_lt, Int.ofNat_le] at hQz); first | trivial)))
 | (apply st_cd; (case hc => (simp only [go_sem, *] <;> rfl)); (case hl => (simp only [go_sem, *] <;> rfl)); (case hn => (simp only [go_sem, *] <;> rfl)); (case hp => first | exact h | (have hXz := h; simp only [go_sem, *] at hXz; exact hXz)); (case hd => first | exact .v _ | exact .any | exact .nils | (repeat' (first | exact Dry.v _ | exact Dry.any | exact Dry.nils | exact Dry.slE | refine Dry.agg ?_ | refine Dry.tup ?_ | (refine List.forall_mem_cons.2 (And.intro ?_ ?_)) | (intro cQ hQ; cases hQ; done)))); (case hm => first | decide | (simp; done)))
 | (apply st_g; (case hv => (simp only [go_sem, *] <;> rfl)); all_goals (intro hg; (try simp only [Bool.not_true, Bool.not_false, reduceCtorEq] at hg)))
 | (refine Awp.ret ?_; try simp only [go_sem, *]))
      all_goals repeat' (first | exact Lower.bool (by first | rfl | (simp only [true_and, Bool.true_and, Bool.false_and, Bool.and_true, Bool.and_false, Bool.true_or, Bool.false_or, reduceIte, Bool.false_eq_true, *]; done) | (simp only [true_and, reduceIte, Bool.false_eq_true, *] <;> rfl) | (simp [true_and]; done) | (simp_all [true_and]; done) | omega))
end Go.Proofs
end
section
set_option linter.unusedVariables false
set_option linter.unusedSimpArgs false
namespace Go.Proofs
open Go.Shelf
def Tryz.lays128_ren : Go.Shelf.Ren := ⟨fun | 128 => 78 | n => n, fun | 51 => 122 | 3 => 3 | 4 => 4 | 46 => 96 | 5 => 5 | 9 => 9 | n => n, fun | n => n⟩
def Tryz.lays125_ren : Go.Shelf.Ren := ⟨fun | 125 => 48 | 128 => 78 | 129 => 79 | n => n, fun | 46 => 96 | 3 => 3 | 51 => 122 | 53 => 124 | 4 => 4 | 5 => 5 | 9 => 9 | n => n, fun | n => n⟩
def Tryz.lays215_ren : Go.Shelf.Ren := ⟨fun | 215 => 108 | n => n, fun | 3 => 3 | 4 => 4 | n => n, fun | n => n⟩
def Tryz.lays129_ren : Go.Shelf.Ren := ⟨fun | 129 => 79 | n => n, fun | 53 => 124 | 3 => 3 | 4 => 4 | 46 => 96 | 5 => 5 | 9 => 9 | n => n, fun | n => n⟩
def Tryz.lays189_ren : Go.Shelf.Ren := ⟨fun | 189 => 40 | 125 => 48 | 257 => 67 | 128 => 78 | 129 => 79 | 294 => 83 | 295 => 84 | 296 => 85 | 297 => 86 | 298 => 87 | 299 => 88 | 216 => 89 | 300 => 90 | 301 => 91 | 328 => 105 | 329 => 101 | 330 => 102 | 331 => 106 | 332 => 107 | 215 => 108 | 343 => 113 | n => n, fun | 28 => 68 | 3 => 3 | 46 => 96 | 0 => 0 | 51 => 122 | 53 => 124 | 4 => 4 | 183 => 115 | 182 => 114 | 131 => 119 | 5 => 5 | 9 => 9 | 218 => 138 | 222 => 142 | 228 => 148 | 229 => 105 | n => n, fun | n => n⟩
theorem Tryz.lays189 : Go.Proofs.Lays.n189 Tryz.prog Tryz.lays189_ren := {
  mixed := by kernel_rfl
  f125 := Tryz.func48.trans (congrArg some (by kernel_rfl))
  f128 := Tryz.func78.trans (congrArg some (by kernel_rfl))
  f129 := Tryz.func79.trans (congrArg some (by kernel_rfl))
  f189 := Tryz.func40.trans (congrArg some (by kernel_rfl))
  f215 := Tryz.func108.trans (congrArg some (by kernel_rfl))
  f216 := Tryz.func89.trans (congrArg some (by kernel_rfl))
  f257 := Tryz.func67.trans (congrArg some (by kernel_rfl))
  f294 := Tryz.func83.trans (congrArg some (by kernel_rfl))
  f295 := Tryz.func84.trans (congrArg some (by kernel_rfl))
  f296 := Tryz.func85.trans (congrArg some (by kernel_rfl))
  f297 := Tryz.func86.trans (congrArg some (by kernel_rfl))
  f298 := Tryz.func87.trans (congrArg some (by kernel_rfl))
  f299 := Tryz.func88.trans (congrArg some (by kernel_rfl))
  f300 := Tryz.func90.trans (congrArg some (by kernel_rfl))
  f301 := Tryz.func91.trans (congrArg some (by kernel_rfl))
  f328 := Tryz.func105.trans (congrArg some (by kernel_rfl))
  f329 := Tryz.func101.trans (congrArg some (by kernel_rfl))
  f330 := Tryz.func102.trans (congrArg some (by kernel_rfl))
  f331 := Tryz.func106.trans (congrArg some (by kernel_rfl))
  f332 := Tryz.func107.trans (congrArg some (by kernel_rfl))
  f343 := Tryz.func113.trans (congrArg some (by kernel_rfl))
  t0 := Tryz.underlying0
  a0 := Tryz.isAgg0
  z0 := Tryz.sizeOf0
  v0 := Tryz.zeroValue0
  t3 := Tryz.underlying3
  a3 := Tryz.isAgg3
  z3 := Tryz.sizeOf3
  v3 := Tryz.zeroValue3
  t4 := Tryz.underlying4
  a4 := Tryz.isAgg4
  z4 := Tryz.sizeOf4
  v4 := Tryz.zeroValue4
  t5 := Tryz.underlying5
  a5 := Tryz.isAgg5
  z5 := Tryz.sizeOf5
  v5 := Tryz.zeroValue5
  t9 := Tryz.underlying9
  a9 := Tryz.isAgg9
  z9 := Tryz.sizeOf9
  v9 := Tryz.zeroValue9
  t28 := Tryz.underlying68
  a28 := Tryz.isAgg68
  z28 := Tryz.sizeOf68
  v28 := Tryz.zeroValue68
  t46 := Tryz.underlying96
  a46 := Tryz.isAgg96
  z46 := Tryz.sizeOf96
  v46 := Tryz.zeroValue96
  t51 := Tryz.underlying122
  a51 := Tryz.isAgg122
  z51 := Tryz.sizeOf122
  v51 := Tryz.zeroValue122
  t53 := Tryz.underlying124
  a53 := Tryz.isAgg124
  z53 := Tryz.sizeOf124
  v53 := Tryz.zeroValue124
  t131 := Tryz.underlying119
  a131 := Tryz.isAgg119
  z131 := Tryz.sizeOf119
  v131 := Tryz.zeroValue119
  t182 := Tryz.underlying114
  a182 := Tryz.isAgg114
  z182 := Tryz.sizeOf114
  v182 := Tryz.zeroValue114
  t183 := Tryz.underlying115
  a183 := Tryz.isAgg115
  z183 := Tryz.sizeOf115
  v183 := Tryz.zeroValue115
  t218 := Tryz.underlying138
  a218 := Tryz.isAgg138
  z218 := Tryz.sizeOf138
  v218 := Tryz.zeroValue138
  t222 := Tryz.underlying142
  a222 := Tryz.isAgg142
  z222 := Tryz.sizeOf142
  v222 := Tryz.zeroValue142
  t228 := Tryz.underlying148
  a228 := Tryz.isAgg148
  z228 := Tryz.sizeOf148
  v228 := Tryz.zeroValue148
  t229 := Tryz.underlying105
  a229 := Tryz.isAgg105
  z229 := Tryz.sizeOf105
  v229 := Tryz.zeroValue105 }
open Go.Sort Go.RowKit in
theorem Tryz.slices_Sort_int (blk off cap : Nat) (zs : List Int) (w : World) (hH : Holds (Value.int .i64) w blk off zs.toArray) (hblk : blk < w.heap.size) (hsz : zs.length < 4611686018427387904) :
    Calls Tryz.prog 40 #[.slice (some ⟨blk, off, none⟩) zs.length cap] w fun e w' =>
      e = .returned (.tuple #[]) ∧ ∃ n os, w' = grow (putRow (Value.int .i64) (Sort.ahead w n) blk off (zs.mergeSort fun x y => decide (x ≤ y)).toArray) os := Any.slices_Sort_int Tryz.lays189 blk off cap zs w hH hblk hsz
def Tryz.laysNm220_ren : Go.Shelf.Ren := ⟨fun | 20 => 41 | n => n, fun | 22 => 68 | 3 => 3 | 4 => 4 | 0 => 0 | n => n, fun | n => n⟩
theorem Tryz.laysNm220 : Go.Proofs.Lays2.n20 Tryz.prog Tryz.laysNm220_ren := {
  mixed := by kernel_rfl
  f20 := Tryz.func41.trans (congrArg some (by kernel_rfl))
  t0 := Tryz.underlying0
  a0 := Tryz.isAgg0
  z0 := Tryz.sizeOf0
  v0 := Tryz.zeroValue0
  t3 := Tryz.underlying3
  a3 := Tryz.isAgg3
  z3 := Tryz.sizeOf3
  v3 := Tryz.zeroValue3
  t4 := Tryz.underlying4
  a4 := Tryz.isAgg4
  z4 := Tryz.sizeOf4
  v4 := Tryz.zeroValue4
  t22 := Tryz.underlying68
  a22 := Tryz.isAgg68
  z22 := Tryz.sizeOf68
  v22 := Tryz.zeroValue68
  i3 := by kernel_rfl }
open Go.RowKit Go.Lib Go.Sort in
/-- slices.Compact at []int: "Compact replaces consecutive runs of equal elements with a single copy. This is like the uniq command found on Unix. Compact modifies the contents of the slice s and returns the modified slice, which may have a smaller length. Compact zeroes the elements between the new length and the original length. The result preserves the nilness of s.": IT RETURNS THE SLICE CUT TO 'Lib.compact zs'; ITS CELLS HOLD 'Lib.compact zs', THEN ZERO VALUES up to the old length; all else is as it was, but for the count of draws. IN THE WORDS OF slices.Sort's CONTRACT ('Holds', 'putRow'): so the everyday 'slices.Sort(xs); xs = slices.Compact(xs)' goes from the one contract to the other. It asks 'zs.length ≤ cap' (every slice's: the reslicing 's[:k]' looks at it). Length 0, nil: '.._empty'. (LAID: no walk: one application.) -/
theorem Tryz.slices_Compact_int (blk off cap : Nat) (zs : List Int) (w : World) (hH : Holds (Value.int .i64) w blk off zs.toArray) (hsz : zs.length ≤ 9223372036854775807) (hcap : zs.length ≤ cap) :
    Calls Tryz.prog 41 #[.slice (some ⟨blk, off, none⟩) zs.length cap] w fun e w' => e = .returned (.slice (some ⟨blk, off, none⟩) (Lib.compact zs).length cap) ∧ ∃ q, w' = putRow (Value.int .i64) (Sort.ahead w q) blk off (Lib.compact zs ++ List.replicate (zs.length - (Lib.compact zs).length) 0).toArray := Any.slices_Compact_int Tryz.laysNm220 blk off cap zs w hH hsz hcap
open Go.RowKit Go.Lib Go.Sort in
/-- The same at a slice of length 0, a nil one too: it comes back as it is. (LAID: no walk: one application.) -/
theorem Tryz.slices_Compact_int_empty (a : Option Addr) (cap : Nat) (w : World) :
    Calls Tryz.prog 41 #[.slice a 0 cap] w fun e w' => e = .returned (.slice a 0 cap) ∧ w' = w := Any.slices_Compact_int_empty Tryz.laysNm220 a cap w
def Tryz.laysNm237_ren : Go.Shelf.Ren := ⟨fun | 37 => 108 | n => n, fun | 3 => 3 | 4 => 4 | n => n, fun | n => n⟩
def Tryz.laysNm231_ren : Go.Shelf.Ren := ⟨fun | 31 => 89 | 37 => 108 | n => n, fun | 3 => 3 | 4 => 4 | n => n, fun | n => n⟩
open Go.RowKit Go.Sort in
/-- .. and plain. (LAID: no walk: one application.) -/
theorem Tryz.slices_Sort_int_none (p : Option Addr) (cap : Nat) (w : World) :
    Calls Tryz.prog 40 #[.slice p 0 cap] w fun e w' => e = .returned (.tuple #[]) ∧ w' = w := Any.slices_Sort_int_none Tryz.lays189 p cap w
end Go.Proofs
end
section
set_option linter.unusedVariables false
set_option linter.unusedSimpArgs false
namespace Go.Proofs
open Go Go.Ab Go.RowKit
set_option maxHeartbeats 1000000
set_option maxRecDepth 100000
def sortI (l : List Int) : List Int := l.mergeSort fun x y => decide (x ≤ y)
theorem sortI_len (l : List Int) : (sortI l).length = l.length := List.length_mergeSort _
theorem fits_ints {st : Nat → Prop} {w : World} {l : List Int} {e : TypeId} {c : Value} {xs : List Value} (h : RowFits st w (ints l) 1 e c xs) : xs = l.map (Value.int .i64) := by
  have hlen : xs.length = l.length := by rw [h.row.len, ints_len]; omega
  apply List.ext_getElem (by simpa using hlen)
  intro i h1 h2
  have hi : i < (ints l).length := by rw [ints_len]; omega
  have h3 := h.cell i 0 hi (by omega)
  rw [ints_at l i (by omega)] at h3
  simp only [av_zero, Nat.mul_one, Nat.add_zero, cv, List.getD_eq_getElem?_getD, List.getElem?_eq_getElem h1, Option.getD_some] at h3
  generalize xs[i] = q at h3 ⊢
  cases h3
  have : i < l.length := by omega
  simp [this]
theorem ints_fits {st : Nat → Prop} {w : World} {l : List Int} {e : TypeId} {c : Value} (h : RowRep w e 1 c l.length (l.map (Value.int .i64))) : RowFits st w (ints l) 1 e c (l.map (Value.int .i64)) := by
  refine ⟨by simp [ints], by omega, by rw [ints_len]; exact h, by simp [Value.oneCell'], fun i j hi hj => ?_⟩
  rw [ints_len] at hi
  obtain rfl : j = 0 := by omega
  rw [ints_at l i hi]
  have e1 : cv (l.map (Value.int .i64)) (i * 1 + 0) = .int .i64 (l.getD i 0) := by
    simp [cv, List.getD_eq_getElem?_getD, hi]
  rw [e1]
  exact .v _
theorem sort_cc (l : List Int) (b nm : Nat) (e : TypeId) (hl : l.length < 1000000) : CallC Tryz.prog 40 [.own b] [(b, .row (ints l) 1 e)] nm (.tup []) [(b, some (.row (ints (sortI l)) 1 e))] := by
  refine ⟨⟨_, Tryz.func40, by kernel_rfl, by kernel_rfl⟩, fun prov β w cs hn hb hi hv => ?_⟩
  have hlk : ∀ n, updL (listH [(b, Blk.row (ints l) 1 e)]) [(b, some (Blk.row (ints (sortI l)) 1 e))] n = if n = b then some (.row (ints (sortI l)) 1 e) else none := by
    intro n; simp only [updL, upd, listH]; split <;> simp
  have hB := hb b (.row (ints l) 1 e) (by simp [listH])
  obtain ⟨xs, hf⟩ := hB
  obtain rfl := fits_ints hf
  obtain ⟨hlen, hv⟩ := hv
  match cs, hlen with
  | [c], _ =>
  have h1 := hv 0 (by simp)
  simp only [av_zero, cv, List.getD_cons_zero] at h1
  obtain ⟨rfl, _⟩ := h1.own_inv
  have tail : ∀ w', Value.tuple #[] = Value.tuple #[] → w.grownBy w' (blkOf (β b)) → RowRep w' e 1 (β b) (sortI l).length ((sortI l).map (Value.int .i64)) →
      ∃ c β', Ending.returned (Value.tuple #[]) = .returned c ∧ w'.os = w.os ∧ w'.tape = w.tape ∧ w'.output = w.output ∧ w.heap.size ≤ w'.heap.size ∧ Grows β β' ∧ (∀ n, n ≠ nm → β' n = β n) ∧
      (∀ g, g < w.heap.size → (∀ n b', listH [(b, Blk.row (ints l) 1 e)] n = some b' → n ∈ [(b, some (Blk.row (ints (sortI l)) 1 e))].map (·.1) → blkOf (β n) ≠ some g) → w'.heap[g]? = w.heap[g]?) ∧
      SimV (stb (fun g => prov g ∨ w.heap.size ≤ g) w' β' (updL (listH [(b, Blk.row (ints l) 1 e)]) [(b, some (Blk.row (ints (sortI l)) 1 e))])) β' w' (.tup []) c ∧
      (∀ n b', updL (listH [(b, Blk.row (ints l) 1 e)]) [(b, some (Blk.row (ints (sortI l)) 1 e))] n = some b' → n ∈ [(b, some (Blk.row (ints (sortI l)) 1 e))].map (·.1) → BlkRep (stb (fun g => prov g ∨ w.heap.size ≤ g) w' β' (updL (listH [(b, Blk.row (ints l) 1 e)]) [(b, some (Blk.row (ints (sortI l)) 1 e))])) β' w' b' (β' n) ∧
        ∀ g, blkOf (β' n) = some g → w.heap.size ≤ g ∨ ∃ m b', listH [(b, Blk.row (ints l) 1 e)] m = some b' ∧ m ∈ [(b, some (Blk.row (ints (sortI l)) 1 e))].map (·.1) ∧ blkOf (β m) = some g) ∧
      Inj β' (updL (listH [(b, Blk.row (ints l) 1 e)]) [(b, some (Blk.row (ints (sortI l)) 1 e))]) := by
    intro w' _ hg hr
    refine ⟨_, β, rfl, hg.os, hg.tape, hg.output, hg.size, Grows.refl _, fun _ _ => rfl, fun g hgl hno => ?_, .pure (.tup [] [] rfl (fun j hj => by simp at hj)), fun n b' hb' _ => ?_, ?_⟩
    · exact hg.block g hgl (fun e' => hno b (.row (ints l) 1 e) (by simp [listH]) (by simp) e'.symm)
    · rw [hlk] at hb'
      split at hb'
      · rename_i hnb; subst hnb
        simp at hb'; subst hb'
        exact ⟨⟨_, ints_fits hr⟩, fun g hgb => .inr ⟨n, .row (ints l) 1 e, by simp [listH], by simp, hgb⟩⟩
      · cases hb'
    · intro n m b1 b2 g h1 h2 _ _
      rw [hlk] at h1 h2
      split at h1
      · split at h2
        · simp_all
        · cases h2
      · cases h1
  rcases hf.row with ⟨a, hc, h0, hx⟩ | ⟨g, cap, hc, h0, hrow⟩
  · have hnil : l = [] := by rw [ints_len] at h0; exact List.eq_nil_of_length_eq_zero h0
    subst hnil
    rw [hc]
    refine (Tryz.slices_Sort_int_none a 0 w).mono fun e' w' ⟨he, hw⟩ => ?_
    subst he; subst hw
    have := tail w' rfl ⟨rfl, rfl, rfl, Nat.le_refl _, fun _ _ _ => rfl⟩ (.inl ⟨a, hc, by simp [sortI], by simp [sortI]⟩)
    exact this
  · rcases hrow.2 with ⟨h', _⟩ | ⟨g', cap', cur, h', _, hg, hn1, hn2, hn3, hn4⟩
    · rw [hc] at h'; cases h'
    · rw [hc] at h'
      simp only [Value.slice.injEq, Option.some.injEq, Addr.mk.injEq, and_true, true_and] at h'
      obtain ⟨rfl, rfl⟩ := h'
      rw [ints_len] at hn1 hn4 hc
      rw [Nat.mul_one] at hn4
      rw [hc]
      have hlt : g < w.heap.size := (Array.getElem?_eq_some_iff.1 hg).1
      refine (Tryz.slices_Sort_int g 0 cap l w (holds_of_blockI hg hn4) hlt (by omega)).mono fun e' w' ⟨he, n, os, hw⟩ => ?_
      subst he; subst hw
      refine tail _ rfl ?_ ?_
      · have : blkOf (β b) = some g := by rw [hc]; simp [blkOf]; omega
        rw [this]
        exact grownBy_sortedI _
      · refine .inr ⟨g, cap, by rw [hc, sortI_len], h0, ?_⟩
        have := ownsRow_sortedI (w := w) (base := 0) (g := g) (cap := cap) (n := n) (e := e) (os := os) (cur := cur) (ss := l) (ts := sortI l) (sortI_len l) (Nat.zero_le _) hg hn1 hn2 hn3
        rw [hc, sortI_len]
        exact this
end Go.Proofs
end
section
set_option linter.unusedVariables false
set_option linter.unusedSimpArgs false
namespace Go.Proofs
open Go Go.Ab Go.RowKit
set_option maxHeartbeats 1000000
theorem compact_len (l : List Int) : (Lib.compact l).length ≤ l.length := by
  unfold Lib.compact Lib.compactUpTo
  rw [List.length_map]
  exact Nat.le_trans (List.length_filter_le _ _) (by simp)
theorem compact_cc (l : List Int) (b nm : Nat) (e : TypeId) (hnb : nm ≠ b) (hl : l.length < 1000000) : CallC Tryz.prog 41 [.own b] [(b, .row (ints l) 1 e)] nm (.own nm) [(b, none), (nm, some (.row (ints (Lib.compact l)) 1 e))] := by
  refine ⟨⟨_, Tryz.func41, by kernel_rfl, by kernel_rfl⟩, fun prov β w cs hn hb hi hv => ?_⟩
  have hlk : ∀ n, updL (listH [(b, Blk.row (ints l) 1 e)]) [(b, none), (nm, some (Blk.row (ints (Lib.compact l)) 1 e))] n = if n = nm then some (.row (ints (Lib.compact l)) 1 e) else none := by
    intro n; simp only [updL, upd, listH]; split
    · rfl
    · split <;> rfl
  have hB := hb b (.row (ints l) 1 e) (by simp [listH])
  obtain ⟨xs, hf⟩ := hB
  obtain rfl := fits_ints hf
  obtain ⟨hlen, hv⟩ := hv
  match cs, hlen with
  | [c], _ =>
  have h1 := hv 0 (by simp)
  simp only [av_zero, cv, List.getD_cons_zero] at h1
  obtain ⟨rfl, _⟩ := h1.own_inv
  have hgr : ∀ c', Grows β (upd β nm c') := fun c' k hk => by
    unfold upd; split
    · rename_i h; subst h; exact absurd hn hk
    · rfl
  have tail : ∀ w' c', (∃ a n cap, c' = .slice a n cap) → w.grownBy w' (blkOf (β b)) → RowRep w' e 1 c' (Lib.compact l).length ((Lib.compact l).map (Value.int .i64)) → (∀ g, blkOf c' = some g → blkOf (β b) = some g) →
      ∃ c β', Ending.returned c' = .returned c ∧ w'.os = w.os ∧ w'.tape = w.tape ∧ w'.output = w.output ∧ w.heap.size ≤ w'.heap.size ∧ Grows β β' ∧ (∀ n, n ≠ nm → β' n = β n) ∧
      (∀ g, g < w.heap.size → (∀ n b', listH [(b, Blk.row (ints l) 1 e)] n = some b' → n ∈ [(b, none), (nm, some (Blk.row (ints (Lib.compact l)) 1 e))].map (·.1) → blkOf (β n) ≠ some g) → w'.heap[g]? = w.heap[g]?) ∧
      SimV (stb (fun g => prov g ∨ w.heap.size ≤ g) w' β' (updL (listH [(b, Blk.row (ints l) 1 e)]) [(b, none), (nm, some (Blk.row (ints (Lib.compact l)) 1 e))])) β' w' (.own nm) c ∧
      (∀ n b', updL (listH [(b, Blk.row (ints l) 1 e)]) [(b, none), (nm, some (Blk.row (ints (Lib.compact l)) 1 e))] n = some b' → n ∈ [(b, none), (nm, some (Blk.row (ints (Lib.compact l)) 1 e))].map (·.1) → BlkRep (stb (fun g => prov g ∨ w.heap.size ≤ g) w' β' (updL (listH [(b, Blk.row (ints l) 1 e)]) [(b, none), (nm, some (Blk.row (ints (Lib.compact l)) 1 e))])) β' w' b' (β' n) ∧
        ∀ g, blkOf (β' n) = some g → w.heap.size ≤ g ∨ ∃ m b', listH [(b, Blk.row (ints l) 1 e)] m = some b' ∧ m ∈ [(b, none), (nm, some (Blk.row (ints (Lib.compact l)) 1 e))].map (·.1) ∧ blkOf (β m) = some g) ∧
      Inj β' (updL (listH [(b, Blk.row (ints l) 1 e)]) [(b, none), (nm, some (Blk.row (ints (Lib.compact l)) 1 e))]) := by
    intro w' c' ⟨a, n0, cap, hc'⟩ hg hr hbk
    refine ⟨_, upd β nm c', rfl, hg.os, hg.tape, hg.output, hg.size, hgr c', fun n hne => by simp [upd, hne], fun g hgl hno => ?_, ?_, fun n b' hb' _ => ?_, ?_⟩
    · exact hg.block g hgl (fun e' => hno b (.row (ints l) 1 e) (by simp [listH]) (by simp) e'.symm)
    · subst hc'; exact .own nm (by simp [upd])
    · rw [hlk] at hb'
      split at hb'
      · rename_i hnn; subst hnn
        simp at hb'; subst hb'
        have hu : upd β n c' n = c' := by simp [upd]
        rw [hu]
        exact ⟨⟨_, ints_fits hr⟩, fun g hgb => .inr ⟨b, .row (ints l) 1 e, by simp [listH], by simp, hbk g hgb⟩⟩
      · cases hb'
    · intro n m b1 b2 g h1 h2 _ _
      rw [hlk] at h1 h2
      split at h1
      · split at h2
        · simp_all
        · cases h2
      · cases h1
  rcases hf.row with ⟨a, hc, h0, hx⟩ | ⟨g, cap, hc, h0, hrow⟩
  · have hnil : l = [] := by rw [ints_len] at h0; exact List.eq_nil_of_length_eq_zero h0
    subst hnil
    rw [hc]
    refine (Tryz.slices_Compact_int_empty a 0 w).mono fun e' w' ⟨he, hw⟩ => ?_
    subst he; subst hw
    exact tail w' _ ⟨_, _, _, rfl⟩ ⟨rfl, rfl, rfl, Nat.le_refl _, fun _ _ _ => rfl⟩ (.inl ⟨a, rfl, rfl, rfl⟩) (fun g hg => by rw [hc]; exact hg)
  · rcases hrow.2 with ⟨h', _⟩ | ⟨g', cap', cur, h', _, hg, hn1, hn2, hn3, hn4⟩
    · rw [hc] at h'; cases h'
    · rw [hc] at h'
      simp only [Value.slice.injEq, Option.some.injEq, Addr.mk.injEq, and_true, true_and] at h'
      obtain ⟨rfl, rfl⟩ := h'
      rw [ints_len] at hn1 hn4 hc
      rw [Nat.mul_one] at hn4
      rw [hc]
      have hcl : (Lib.compact l).length ≤ l.length := compact_len l
      refine (Tryz.slices_Compact_int g 0 cap l w (holds_of_blockI hg hn4) (by omega) hn1).mono fun e' w' ⟨he, q, hw⟩ => ?_
      subst he
      have hw2 : w' = Sort.grow (Sort.putRow (Value.int .i64) (Sort.ahead w q) g 0 (Lib.compact l ++ List.replicate (l.length - (Lib.compact l).length) 0).toArray) #[] := by rw [hw, Sort.grow_empty]
      subst hw2
      have hbk : blkOf (β b) = some g := by rw [hc]; simp [blkOf]; omega
      refine tail _ _ ⟨_, _, _, rfl⟩ (by rw [hbk]; exact grownBy_sortedI _) (.inr ⟨g, cap, rfl, h0, by simp, .inr ⟨g, cap, _, rfl, Nat.zero_le _, heap_sortedI _ hg, by omega, hn2, by simp [Sort.putCells, hn3], ?_⟩⟩) (fun g' hg' => ?_)
      · rw [Nat.mul_one]
        have ht := take_putCellsI cur (Lib.compact l ++ List.replicate (l.length - (Lib.compact l).length) 0) (by simp; omega)
        have ht2 := congrArg (List.take (Lib.compact l).length) ht
        rw [List.take_take, Nat.min_eq_left (by simp)] at ht2
        rw [ht2, List.map_append]
        exact List.take_left' (by simp)
      · rw [hbk]
        simp only [blkOf] at hg'
        split at hg'
        · cases hg'
        · exact hg'
end Go.Proofs
end
section
set_option linter.unusedVariables false
set_option linter.unusedSimpArgs false
namespace Go.Ab
open Go

theorem compact_asc (l : List Int) (hs : l.Pairwise (· ≤ ·)) : ∀ m, m ≤ l.length →
    (Lib.compactUpTo l.toArray m).Pairwise (· < ·) ∧ ∀ x, x ∈ Lib.compactUpTo l.toArray m ↔ ∃ j, j < m ∧ l.toArray[j]! = x := by
  have le : ∀ i j, i ≤ j → j < l.length → l.toArray[i]! ≤ l.toArray[j]! := by
    intro i j hij hj
    have hi : i < l.length := by omega
    have e1 : l.toArray[i]! = l[i] := by simp [getElem!_pos, hi]
    have e2 : l.toArray[j]! = l[j] := by simp [getElem!_pos, hj]
    rw [e1, e2]
    rcases Nat.lt_or_ge i j with h | h
    · exact List.pairwise_iff_getElem.1 hs i j hi hj h
    · obtain rfl : i = j := by omega
      exact Int.le_refl _
  intro m
  induction m with
  | zero => intro _; simp [Lib.compactUpTo]
  | succ m ih =>
    intro hm
    obtain ⟨h1, h2⟩ := ih (by omega)
    rw [Lib.compactUpTo_succ]
    by_cases hk : Lib.keeps l.toArray m = true
    · rw [if_pos hk]
      refine ⟨?_, fun x => ?_⟩
      · rw [List.pairwise_append]
        refine ⟨h1, by simp, fun x hx y hy => ?_⟩
        obtain rfl : y = l.toArray[m]! := by simpa using hy
        obtain ⟨j, hj, rfl⟩ := (h2 x).1 hx
        simp only [Lib.keeps, decide_eq_true_eq] at hk
        rcases hk with hk | hk
        · omega
        · have a1 := le j (m - 1) (by omega) (by omega)
          have a2 := le (m - 1) m (by omega) (by omega)
          omega
      · rw [List.mem_append, h2]
        constructor
        · rintro (⟨j, hj, e⟩ | h)
          · exact ⟨j, by omega, e⟩
          · exact ⟨m, by omega, by simpa using (List.mem_singleton.1 h).symm⟩
        · rintro ⟨j, hj, e⟩
          rcases Nat.lt_or_ge j m with h | h
          · exact .inl ⟨j, h, e⟩
          · obtain rfl : j = m := by omega
            exact .inr (by simp [← e])
    · rw [if_neg hk, List.append_nil]
      refine ⟨h1, fun x => ?_⟩
      rw [h2]
      constructor
      · rintro ⟨j, hj, e⟩; exact ⟨j, by omega, e⟩
      · rintro ⟨j, hj, e⟩
        rcases Nat.lt_or_ge j m with h | h
        · exact ⟨j, h, e⟩
        · obtain rfl : j = m := by omega
          simp only [Lib.keeps, decide_eq_true_eq, not_or, Decidable.not_not] at hk
          exact ⟨j - 1, by omega, by rw [← hk.2, e]⟩

theorem compact_sorted (l : List Int) (hs : l.Pairwise (· ≤ ·)) : (Lib.compact l).Pairwise (· < ·) ∧ ∀ x, x ∈ Lib.compact l ↔ x ∈ l := by
  obtain ⟨h1, h2⟩ := compact_asc l hs l.length (Nat.le_refl _)
  refine ⟨h1, fun x => ?_⟩
  unfold Lib.compact
  rw [h2]
  constructor
  · rintro ⟨j, hj, rfl⟩
    simp [getElem!_pos, hj]
  · intro hx
    obtain ⟨j, hj, e⟩ := List.getElem_of_mem hx
    exact ⟨j, hj, by simp [getElem!_pos, hj, e]⟩

def sortZ (l : List Int) : List Int := l.mergeSort fun x y => decide (x ≤ y)
theorem sortZ_asc (l : List Int) : (sortZ l).Pairwise (· ≤ ·) := by
  have := List.pairwise_mergeSort (le := fun x y : Int => decide (x ≤ y)) (by intro a b c; simp; omega) (by intro a b; simp; omega) l
  simpa [sortZ] using this
theorem mem_sortZ (l : List Int) (x : Int) : x ∈ sortZ l ↔ x ∈ l := (List.mergeSort_perm l _).mem_iff

/-- The least number of a list, from a first one on. -/
def leastZ (a : Int) (l : List Int) : Int := l.foldl min a
/-- What is taken out, least first. -/
def takeZ : Nat → List Int → List Int
  | 0, _ => []
  | _ + 1, [] => []
  | k + 1, a :: l => leastZ a (a :: l) :: takeZ k ((a :: l).filter fun x => x != leastZ a (a :: l))

end Go.Ab
end
section
set_option linter.unusedVariables false
set_option linter.unusedSimpArgs false
namespace Go.Proofs
open Go Go.Ab
set_option maxHeartbeats 8000000
set_option maxRecDepth 100000
attribute [local irreducible] Awp aops aopsL Go.Ab.Pure PureOwn
def cutP (len : Int) (x : Int) : Bool := decide (0 ≤ x) && decide (x ≤ len)
def sideL (len : Int) (l : List Int) : List Int := 0 :: len :: l.filter (cutP len)
def flatX (l : List Rc) : List Int := l.flatMap fun t => [t.a, t.c]
theorem flatX_step (l : List Rc) (i : Nat) (h : i < l.length) : flatX (l.take (i + 1)) = flatX (l.take i) ++ [(l.getD i zeroRc).a, (l.getD i zeroRc).c] := by
  unfold flatX
  rw [take_snoc l zeroRc i h, List.flatMap_append]
  simp
theorem flatX_len (l : List Rc) : (flatX l).length = 2 * l.length := by
  induction l with
  | nil => rfl
  | cons x l ih => simp only [flatX, List.flatMap_cons, List.length_append, List.length_cons, List.length_nil] at *; omega
theorem sideL_len (len : Int) (l : List Int) : (sideL len l).length ≤ 2 + l.length := by
  have := List.length_filter_le (cutP len) l
  unfold sideL
  simp only [List.length_cons]
  omega
theorem sideL_no (len : Int) (l : List Int) (x : Int) (h : cutP len x = false) : sideL len (l ++ [x]) = sideL len l := by simp [sideL, h]
theorem sideL_yes (len : Int) (l : List Int) (x : Int) (h : cutP len x = true) : sideL len (l ++ [x]) = sideL len l ++ [x] := by simp [sideL, h]
def sidesE (len : Int) (tk : List Rc) : List Int := Lib.compact (sortI (sideL len (flatX tk)))
theorem sides_spec {len : Int} (tk : List Rc) (h : 0 < len) : SideS len tk (sidesE len tk) ∧ (sidesE len tk).length ≤ 2 + 2 * tk.length := by
  have hP := compact_sorted (sortZ (sideL len (flatX tk))) (sortZ_asc _)
  refine ⟨⟨hP.1, fun x => ?_⟩, ?_⟩
  · refine ((hP.2 x).trans (mem_sortZ _ _)).trans ?_
    unfold sideL flatX cutP
    simp only [List.mem_cons, List.mem_filter, List.mem_flatMap, Bool.and_eq_true, decide_eq_true_eq, List.not_mem_nil, or_false]
    constructor
    · rintro (h | h | ⟨⟨t, ht, h⟩, k⟩)
      · exact .inl h
      · exact .inr (.inl h)
      · exact .inr (.inr ⟨t, ht, h, k⟩)
    · rintro (h | h | ⟨t, ht, h, k⟩)
      · exact .inl h
      · exact .inr (.inl h)
      · exact .inr (.inr ⟨⟨t, ht, h⟩, k⟩)
  · refine Nat.le_trans (compact_len _) ?_
    rw [sortI_len]
    have := sideL_len len (flatX tk)
    rw [flatX_len] at this
    exact this
theorem sides_ok (len wid : Int) (tk : List Rc) (hl : tk.length ≤ 32) : Pure Tryz.prog 21 [plAv len wid tk] (.sl (ints (sidesE len tk))) := by
  have hsl := sideL_len len (flatX tk)
  rw [flatX_len] at hsl
  have s1 := fun b nm => sort_cc (sideL len (flatX tk)) b nm 3 (by omega)
  have s2 := fun b nm h => compact_cc (sortI (sideL len (flatX tk))) b nm 3 h (by rw [sortI_len]; omega)
  unfold sidesE
  generalize Lib.compact (sortI (sideL len (flatX tk))) = R at *
  generalize sortI (sideL len (flatX tk)) = R1 at *
  clear hsl
  refine fn_pure Tryz.F21 (Nat.le_of_ble_eq_true rfl) ?_; unfold Tryz.ac21
  repeat' (first
 | (apply Awp.sreg; (case hn => (simp only [List.length_cons, List.length_nil, Nat.reduceAdd] <;> rfl)))
 | (refine st_nil ?_)
 | (apply st_a; (case hc => rfl); (case he => (simp only [go_sem, *] <;> rfl)); (case hu => (simp only [updL_nil, updL_cons] <;> rfl)); (case hp => first | trivial | (simp; done)))
 | refine Awp.block ?_
 | refine Awp.seq ?_)
  refine Awp.loop (fun i : Nat => i ≤ tk.length) 80 (fun i => mkS [(1, .bp 0 0), (3, .own 1), (12, .sl (rcs tk)), (13, .v (.int .i64 tk.length)), (14, .v (.int .i64 i))] [(0, .box [.v (.int .i64 len), .v (.int .i64 wid), .sl (rcs tk)]), (1, .row (ints (sideL len (flatX (tk.take i)))) 1 3)]) (fun i => tk.length - i) 0 (by omega) ?_ ?_
  · have e1 : ints (sideL len (flatX (tk.take 0))) = [[.v (.int .i64 0)], [.v (.int .i64 len)]] := rfl
    rw [e1]
    clear s1 s2
    (apply Ghost.mk [(0, 0), (1, 4)] []; (case hdead => rfl); (case hinj => rfl); (case hV => (simp only [go_sem, *]) <;> (repeat' (first | refine And.intro ?_ ?_ | exact View.int (by first | rfl | omega | (simp; done) | (rw [wrap_i64] <;> (try simp only [Int.natCast_add]) <;> omega) | (simp [*]; done)) | exact .bp rfl (by decide) | exact .own rfl (by decide)))); (case hB => (simp only [go_sem, *]) <;> (repeat' (first | refine And.intro ?_ ?_ | exact ⟨_, rfl, BView.boxF rfl⟩ | exact ⟨_, rfl, .rowE (by first | rfl | omega | (simp; done) | (rw [wrap_i64] <;> (try simp only [Int.natCast_add]) <;> omega) | (simp [*]; done))⟩))))
  · intro i hi
    by_cases hlt : i < tk.length
    · have hlt' : (i : Int) < tk.length := by omega
      have hat := rcs_at tk i hlt
      have hz : ((tk.getD i zeroRc).cells).length = 4 := rfl
      have hst := flatX_step tk i hlt
      have hln := flatX_len (tk.take i)
      have htl : (tk.take i).length = i := List.length_take_of_le hi
      clear s1 s2
      generalize tk.getD i zeroRc = t at *
      generalize flatX (tk.take i) = L at *
      repeat' (first
 | (apply Awp.sreg; (case hn => (simp only [List.length_cons, List.length_nil, Nat.reduceAdd] <;> rfl)))
 | (refine st_nil ?_)
 | (apply st_a; (case hc => rfl); (case he => (simp only [go_sem, *] <;> rfl)); (case hu => (simp only [updL_nil, updL_cons] <;> rfl)); (case hp => first | trivial | omega))
 | (refine Awp.skip ?_; try simp only [go_sem, *])
 | refine Awp.block ?_
 | (apply Awp.cond; (case hc => (simp only [go_sem, *] <;> rfl)); all_goals (intro hg; (try simp only [Bool.not_true, Bool.not_false, reduceCtorEq] at hg)))
 | refine Awp.seq ?_)
      refine Awp.loop (fun j : Nat => j ≤ 2) 200 (fun j => mkS [(1, .bp 0 0), (3, .own 1), (12, .sl (rcs tk)), (13, .v (.int .i64 tk.length)), (14, .v (.int .i64 i)), (24, .agg [.v (.int .i64 t.a), .v (.int .i64 t.c)]), (25, .v (.int .i64 j))] [(0, .box [.v (.int .i64 len), .v (.int .i64 wid), .sl (rcs tk)]), (1, .row (ints (sideL len (L ++ [t.a, t.c].take j))) 1 3)]) (fun j => 2 - j) 0 (by omega) ?_ ?_
      · rw [List.take_zero, List.append_nil]
        clear hst
        (apply Ghost.mk [(0, 0), (1, 1)] []; (case hdead => rfl); (case hinj => rfl); (case hV => (simp only [go_sem, *]) <;> (repeat' (first | refine And.intro ?_ ?_ | exact View.int (by first | rfl | omega | (simp; done) | (rw [wrap_i64] <;> (try simp only [Int.natCast_add]) <;> omega) | (simp [*]; done)) | exact .bp rfl (by decide) | exact .own rfl (by decide) | (refine View.aggF ?_; (simp [AV.flat]; done))))); (case hB => (simp only [go_sem, *]) <;> (repeat' (first | refine And.intro ?_ ?_ | exact ⟨_, rfl, BView.boxF rfl⟩ | exact ⟨_, rfl, .rowE (by first | rfl | omega | (simp; done) | (rw [wrap_i64] <;> (try simp only [Int.natCast_add]) <;> omega) | (simp [*]; done))⟩))))
      · intro j hj
        have k1 := within_ok t.a 0 len
        have k2 := within_ok t.c 0 len
        have hj3 : j = 0 ∨ j = 1 ∨ j = 2 := by omega
        rcases hj3 with rfl | rfl | rfl
        · rw [show ((0 : Nat) : Int) = 0 from rfl]
          have hsl := sideL_len len L
          rw [List.take_zero, List.append_nil]
          have e1 : L ++ List.take (0 + 1) [t.a, t.c] = L ++ [t.a] := rfl
          clear k2 hst
          cases hc : cutP len t.a
          · have hno := sideL_no len L t.a hc
            unfold cutP at hc
            repeat' (first
 | (apply Awp.sreg; (case hn => (simp only [List.length_cons, List.length_nil, Nat.reduceAdd] <;> rfl)))
 | (refine st_nil ?_)
 | (apply st_a; (case hc => rfl); (case he => (simp only [go_sem, *] <;> rfl)); (case hu => (simp only [updL_nil, updL_cons] <;> rfl)); (case hp => first | trivial))
 | (apply st_c; (case hc => (simp only [go_sem, *] <;> rfl)); (case hl => (simp only [go_sem, *] <;> rfl)); (case hn => (simp only [go_sem, *] <;> rfl)); (case hp => first | exact k1 | (have hXz := k1; simp only [go_sem, *] at hXz; exact hXz)))
 | (apply Awp.reg; (case hn => (simp only [List.length_cons, List.length_nil, Nat.reduceAdd] <;> rfl)))
 | (refine Awp.skip ?_; try simp only [go_sem, *])
 | refine Awp.block ?_
 | (apply Awp.cond; (case hc => (simp only [go_sem, *] <;> rfl)); all_goals (intro hg; (try simp only [Bool.not_true, Bool.not_false, reduceCtorEq] at hg)))
 | refine Awp.seq ?_)
            all_goals (refine ⟨1, by omega, by omega, ?_⟩; rw [e1, hno]; clear hno e1 k1; (apply Ghost.mk [(0, 0), (1, 1)] []; (case hdead => rfl); (case hinj => rfl); (case hV => (simp only [go_sem, *]) <;> (repeat' (first | refine And.intro ?_ ?_ | exact View.int (by first | rfl | omega | (simp; done) | (rw [wrap_i64] <;> (try simp only [Int.natCast_add]) <;> omega) | (simp [*]; done)) | exact .bp rfl (by decide) | exact .own rfl (by decide) | (refine View.aggF ?_; (simp [AV.flat]; done))))); (case hB => (simp only [go_sem, *]) <;> (repeat' (first | refine And.intro ?_ ?_ | exact ⟨_, rfl, BView.boxF rfl⟩ | exact ⟨_, rfl, .rowE (by first | rfl | omega | (simp; done) | (rw [wrap_i64] <;> (try simp only [Int.natCast_add]) <;> omega) | (simp [*]; done))⟩)))))
          · have hye := sideL_yes len L t.a hc
            unfold cutP at hc
            repeat' (first
 | (apply Awp.sreg; (case hn => (simp only [List.length_cons, List.length_nil, Nat.reduceAdd] <;> rfl)))
 | (refine st_nil ?_)
 | (apply st_a; (case hc => rfl); (case he => (simp only [go_sem, *] <;> rfl)); (case hu => (simp only [updL_nil, updL_cons] <;> rfl)); (case hp => first | trivial | (simp; done) | (simp; omega)))
 | (apply st_c; (case hc => (simp only [go_sem, *] <;> rfl)); (case hl => (simp only [go_sem, *] <;> rfl)); (case hn => (simp only [go_sem, *] <;> rfl)); (case hp => first | exact k1 | (have hXz := k1; simp only [go_sem, *] at hXz; exact hXz)))
 | (apply Awp.reg; (case hn => (simp only [List.length_cons, List.length_nil, Nat.reduceAdd] <;> rfl)))
 | (refine Awp.skip ?_; try simp only [go_sem, *])
 | refine Awp.block ?_
 | (apply Awp.cond; (case hc => (simp only [go_sem, *] <;> rfl)); all_goals (intro hg; (try simp only [Bool.not_true, Bool.not_false, reduceCtorEq] at hg)))
 | refine Awp.seq ?_)
            all_goals (refine ⟨1, by omega, by omega, ?_⟩; rw [e1, hye, ← ints_snoc]; clear hye e1 k1; (apply Ghost.mk [(0, 0), (1, 210)] []; (case hdead => rfl); (case hinj => rfl); (case hV => (simp only [go_sem, *]) <;> (repeat' (first | refine And.intro ?_ ?_ | exact View.int (by first | rfl | omega | (simp; done) | (rw [wrap_i64] <;> (try simp only [Int.natCast_add]) <;> omega) | (simp [*]; done)) | exact .bp rfl (by decide) | exact .own rfl (by decide) | (refine View.aggF ?_; (simp [AV.flat]; done))))); (case hB => (simp only [go_sem, *]) <;> (repeat' (first | refine And.intro ?_ ?_ | exact ⟨_, rfl, BView.boxF rfl⟩ | exact ⟨_, rfl, .rowE (by first | rfl | omega | (simp; done) | (rw [wrap_i64] <;> (try simp only [Int.natCast_add]) <;> omega) | (simp [*]; done))⟩)))))
        · rw [show ((1 : Nat) : Int) = 1 from rfl]
          have hsl := sideL_len len (L ++ [t.a])
          have e0 : L ++ List.take 1 [t.a, t.c] = L ++ [t.a] := rfl
          have e1 : L ++ List.take (1 + 1) [t.a, t.c] = L ++ [t.a] ++ [t.c] := by simp
          rw [e0]
          clear e0 k1 hst
          simp only [List.length_append, List.length_cons, List.length_nil] at hsl
          generalize L ++ [t.a] = L1 at *
          cases hc : cutP len t.c
          · have hno := sideL_no len L1 t.c hc
            unfold cutP at hc
            repeat' (first
 | (apply Awp.sreg; (case hn => (simp only [List.length_cons, List.length_nil, Nat.reduceAdd] <;> rfl)))
 | (refine st_nil ?_)
 | (apply st_a; (case hc => rfl); (case he => (simp only [go_sem, *] <;> rfl)); (case hu => (simp only [updL_nil, updL_cons] <;> rfl)); (case hp => first | trivial))
 | (apply st_c; (case hc => (simp only [go_sem, *] <;> rfl)); (case hl => (simp only [go_sem, *] <;> rfl)); (case hn => (simp only [go_sem, *] <;> rfl)); (case hp => first | exact k2 | (have hXz := k2; simp only [go_sem, *] at hXz; exact hXz)))
 | (apply Awp.reg; (case hn => (simp only [List.length_cons, List.length_nil, Nat.reduceAdd] <;> rfl)))
 | (refine Awp.skip ?_; try simp only [go_sem, *])
 | refine Awp.block ?_
 | (apply Awp.cond; (case hc => (simp only [go_sem, *] <;> rfl)); all_goals (intro hg; (try simp only [Bool.not_true, Bool.not_false, reduceCtorEq] at hg)))
 | refine Awp.seq ?_)
            all_goals (refine ⟨2, by omega, by omega, ?_⟩; rw [e1, hno]; clear hno e1 k2; (apply Ghost.mk [(0, 0), (1, 1)] []; (case hdead => rfl); (case hinj => rfl); (case hV => (simp only [go_sem, *]) <;> (repeat' (first | refine And.intro ?_ ?_ | exact View.int (by first | rfl | omega | (simp; done) | (rw [wrap_i64] <;> (try simp only [Int.natCast_add]) <;> omega) | (simp [*]; done)) | exact .bp rfl (by decide) | exact .own rfl (by decide) | (refine View.aggF ?_; (simp [AV.flat]; done))))); (case hB => (simp only [go_sem, *]) <;> (repeat' (first | refine And.intro ?_ ?_ | exact ⟨_, rfl, BView.boxF rfl⟩ | exact ⟨_, rfl, .rowE (by first | rfl | omega | (simp; done) | (rw [wrap_i64] <;> (try simp only [Int.natCast_add]) <;> omega) | (simp [*]; done))⟩)))))
          · have hye := sideL_yes len L1 t.c hc
            unfold cutP at hc
            repeat' (first
 | (apply Awp.sreg; (case hn => (simp only [List.length_cons, List.length_nil, Nat.reduceAdd] <;> rfl)))
 | (refine st_nil ?_)
 | (apply st_a; (case hc => rfl); (case he => (simp only [go_sem, *] <;> rfl)); (case hu => (simp only [updL_nil, updL_cons] <;> rfl)); (case hp => first | trivial | (simp; done) | (simp; omega)))
 | (apply st_c; (case hc => (simp only [go_sem, *] <;> rfl)); (case hl => (simp only [go_sem, *] <;> rfl)); (case hn => (simp only [go_sem, *] <;> rfl)); (case hp => first | exact k2 | (have hXz := k2; simp only [go_sem, *] at hXz; exact hXz)))
 | (apply Awp.reg; (case hn => (simp only [List.length_cons, List.length_nil, Nat.reduceAdd] <;> rfl)))
 | (refine Awp.skip ?_; try simp only [go_sem, *])
 | refine Awp.block ?_
 | (apply Awp.cond; (case hc => (simp only [go_sem, *] <;> rfl)); all_goals (intro hg; (try simp only [Bool.not_true, Bool.not_false, reduceCtorEq] at hg)))
 | refine Awp.seq ?_)
            all_goals (refine ⟨2, by omega, by omega, ?_⟩; rw [e1, hye, ← ints_snoc]; clear hye e1 k2; (apply Ghost.mk [(0, 0), (1, 210)] []; (case hdead => rfl); (case hinj => rfl); (case hV => (simp only [go_sem, *]) <;> (repeat' (first | refine And.intro ?_ ?_ | exact View.int (by first | rfl | omega | (simp; done) | (rw [wrap_i64] <;> (try simp only [Int.natCast_add]) <;> omega) | (simp [*]; done)) | exact .bp rfl (by decide) | exact .own rfl (by decide) | (refine View.aggF ?_; (simp [AV.flat]; done))))); (case hB => (simp only [go_sem, *]) <;> (repeat' (first | refine And.intro ?_ ?_ | exact ⟨_, rfl, BView.boxF rfl⟩ | exact ⟨_, rfl, .rowE (by first | rfl | omega | (simp; done) | (rw [wrap_i64] <;> (try simp only [Int.natCast_add]) <;> omega) | (simp [*]; done))⟩)))))
        · rw [show ((2 : Nat) : Int) = 2 from rfl]
          have e1 : L ++ List.take 2 [t.a, t.c] = L ++ [t.a, t.c] := rfl
          rw [e1, ← hst]
          clear e1 hst k1 k2
          repeat' (first
 | (apply Awp.sreg; (case hn => (simp only [List.length_cons, List.length_nil, Nat.reduceAdd] <;> rfl)))
 | (refine st_nil ?_)
 | (apply st_a; (case hc => rfl); (case he => (simp only [go_sem, *] <;> rfl)); (case hu => (simp only [updL_nil, updL_cons] <;> rfl)); (case hp => first | trivial))
 | (apply Awp.reg; (case hn => (simp only [List.length_cons, List.length_nil, Nat.reduceAdd] <;> rfl)))
 | (refine Awp.exit ?_; try simp only [go_sem, *])
 | (apply Awp.cond; (case hc => (simp only [go_sem, *] <;> rfl)); all_goals (intro hg; (try simp only [Bool.not_true, Bool.not_false, reduceCtorEq] at hg)))
 | refine Awp.seq ?_)
          all_goals (refine ⟨i + 1, by omega, by omega, ?_⟩; (apply Ghost.mk [(0, 0), (1, 1)] []; (case hdead => rfl); (case hinj => rfl); (case hV => (simp only [go_sem, *]) <;> (repeat' (first | refine And.intro ?_ ?_ | exact View.int (by first | rfl | omega | (simp; done) | (rw [wrap_i64] <;> (try simp only [Int.natCast_add]) <;> omega) | (simp [*]; done)) | exact .bp rfl (by decide) | exact .own rfl (by decide)))); (case hB => (simp only [go_sem, *]) <;> (repeat' (first | refine And.intro ?_ ?_ | exact ⟨_, rfl, BView.boxF rfl⟩ | exact ⟨_, rfl, .rowE (by first | rfl | omega | (simp; done) | (rw [wrap_i64] <;> (try simp only [Int.natCast_add]) <;> omega) | (simp [*]; done))⟩)))))
    · have hlt' : ¬ (i : Int) < tk.length := by omega
      have e1 : tk.take i = tk := List.take_of_length_le (by omega)
      rw [e1]
      clear e1 hlt
      repeat' (first
 | (apply Awp.sreg; (case hn => (simp only [List.length_cons, List.length_nil, Nat.reduceAdd] <;> rfl)))
 | (refine st_nil ?_)
 | (apply st_a; (case hc => rfl); (case he => (simp only [go_sem, *] <;> rfl)); (case hu => (simp only [updL_nil, updL_cons] <;> rfl)); (case hp => first | trivial))
 | (apply st_cc; (case hc => (simp only [go_sem, *] <;> rfl)); (case hcc => exact (s1 _ _)); (case hh => (first | (simp only [List.mem_singleton, forall_eq]; first | (simp only [go_sem, *] <;> rfl) | (simp only [go_sem, *]; simp [ints])) | (intro p hp; cases hp; done) | (intro p hp; simp only [List.mem_cons, List.not_mem_nil, or_false] at hp; rcases hp with rfl | rfl | rfl | rfl | rfl | rfl | rfl <;> (simp only [go_sem, *] <;> rfl)) | (intro p hp; simp only [List.mem_cons, List.not_mem_nil, or_false] at hp; rcases hp with rfl | rfl | rfl | rfl <;> (simp only [go_sem, *] <;> rfl)))); (case hu => (first | (simp; done) | decide)); (case hm => (first | decide | (simp; done))); (case hw => (simp only [updL_nil, updL_cons] <;> rfl)))
 | (apply st_cc; (case hc => (simp only [go_sem, *] <;> rfl)); (case hcc => exact (s2 _ _ (by omega))); (case hh => (first | (simp only [List.mem_singleton, forall_eq]; first | (simp only [go_sem, *] <;> rfl) | (simp only [go_sem, *]; simp [ints])) | (intro p hp; cases hp; done) | (intro p hp; simp only [List.mem_cons, List.not_mem_nil, or_false] at hp; rcases hp with rfl | rfl | rfl | rfl | rfl | rfl | rfl <;> (simp only [go_sem, *] <;> rfl)) | (intro p hp; simp only [List.mem_cons, List.not_mem_nil, or_false] at hp; rcases hp with rfl | rfl | rfl | rfl <;> (simp only [go_sem, *] <;> rfl)))); (case hu => (first | (simp; done) | decide)); (case hm => (first | decide | (simp; done))); (case hw => (simp only [updL_nil, updL_cons] <;> rfl)))
 | (refine Awp.ret ?_; try simp only [go_sem, *])
 | (refine Awp.exit ?_; try simp only [go_sem, *])
 | (apply Awp.cond; (case hc => (simp only [go_sem, *] <;> rfl)); all_goals (intro hg; (try simp only [Bool.not_true, Bool.not_false, reduceCtorEq] at hg)))
 | refine Awp.seq ?_)
      all_goals repeat' (first | exact Lower.ownE (by simp only [go_sem, *] <;> rfl) (by first | rfl | (simp only [true_and, Bool.true_and, Bool.false_and, Bool.and_true, Bool.and_false, Bool.true_or, Bool.false_or, reduceIte, Bool.false_eq_true, *]; done) | (simp only [true_and, reduceIte, Bool.false_eq_true, *] <;> rfl) | (simp [true_and]; done) | (simp_all [true_and]; done) | omega))
end Go.Proofs
end
section
set_option linter.unusedVariables false
set_option linter.unusedSimpArgs false
namespace Go.Proofs
open Go.Shelf
def Tryz.sortRc_ren : Go.Shelf.Ren := ⟨fun | 6 => 24 | 15 => 48 | 14 => 47 | 28 => 78 | 29 => 79 | 20 => 70 | 21 => 71 | 22 => 72 | 23 => 73 | 24 => 74 | 25 => 75 | 26 => 76 | 27 => 77 | 46 => 100 | 47 => 101 | 48 => 102 | 49 => 103 | 50 => 104 | 57 => 112 | n => n, fun | 22 => 32 | 24 => 54 | 25 => 74 | 3 => 3 | 39 => 96 | 0 => 0 | 53 => 122 | 55 => 124 | 4 => 4 | 46 => 115 | 45 => 114 | 50 => 119 | 5 => 5 | 9 => 9 | 66 => 138 | 70 => 142 | 76 => 148 | 77 => 105 | n => n, fun | n => n⟩
theorem Tryz.sortRc : Go.Proofs.SlLaysF0.n6 Tryz.prog Tryz.sortRc_ren := {
  mixed := by kernel_rfl
  f6 := ⟨Tryz.f24.name, by decide, Tryz.func24.trans (congrArg some (by kernel_rfl))⟩
  f14 := ⟨Tryz.f47.name, by decide, Tryz.func47.trans (congrArg some (by kernel_rfl))⟩
  f15 := Tryz.func48.trans (congrArg some (by kernel_rfl))
  f20 := ⟨Tryz.f70.name, by decide, Tryz.func70.trans (congrArg some (by kernel_rfl))⟩
  f21 := ⟨Tryz.f71.name, by decide, Tryz.func71.trans (congrArg some (by kernel_rfl))⟩
  f22 := ⟨Tryz.f72.name, by decide, Tryz.func72.trans (congrArg some (by kernel_rfl))⟩
  f23 := ⟨Tryz.f73.name, by decide, Tryz.func73.trans (congrArg some (by kernel_rfl))⟩
  f24 := ⟨Tryz.f74.name, by decide, Tryz.func74.trans (congrArg some (by kernel_rfl))⟩
  f25 := ⟨Tryz.f75.name, by decide, Tryz.func75.trans (congrArg some (by kernel_rfl))⟩
  f26 := ⟨Tryz.f76.name, by decide, Tryz.func76.trans (congrArg some (by kernel_rfl))⟩
  f27 := ⟨Tryz.f77.name, by decide, Tryz.func77.trans (congrArg some (by kernel_rfl))⟩
  f28 := Tryz.func78.trans (congrArg some (by kernel_rfl))
  f29 := Tryz.func79.trans (congrArg some (by kernel_rfl))
  f46 := ⟨Tryz.f100.name, by decide, Tryz.func100.trans (congrArg some (by kernel_rfl))⟩
  f47 := Tryz.func101.trans (congrArg some (by kernel_rfl))
  f48 := Tryz.func102.trans (congrArg some (by kernel_rfl))
  f49 := ⟨Tryz.f103.name, by decide, Tryz.func103.trans (congrArg some (by kernel_rfl))⟩
  f50 := ⟨Tryz.f104.name, by decide, Tryz.func104.trans (congrArg some (by kernel_rfl))⟩
  f57 := ⟨Tryz.f112.name, by decide, Tryz.func112.trans (congrArg some (by kernel_rfl))⟩
  t0 := Tryz.underlying0
  a0 := Tryz.isAgg0
  z0 := Tryz.sizeOf0
  v0 := Tryz.zeroValue0
  t3 := Tryz.underlying3
  a3 := Tryz.isAgg3
  z3 := Tryz.sizeOf3
  v3 := Tryz.zeroValue3
  t4 := Tryz.underlying4
  a4 := Tryz.isAgg4
  z4 := Tryz.sizeOf4
  v4 := Tryz.zeroValue4
  t5 := Tryz.underlying5
  a5 := Tryz.isAgg5
  z5 := Tryz.sizeOf5
  v5 := Tryz.zeroValue5
  t9 := Tryz.underlying9
  a9 := Tryz.isAgg9
  z9 := Tryz.sizeOf9
  v9 := Tryz.zeroValue9
  t22 := Tryz.underlying32
  a22 := Tryz.isAgg32
  z22 := Tryz.sizeOf32
  v22 := Tryz.zeroValue32
  t25 := Tryz.underlying74
  a25 := Tryz.isAgg74
  z25 := Tryz.sizeOf74
  v25 := Tryz.zeroValue74
  t39 := Tryz.underlying96
  a39 := Tryz.isAgg96
  z39 := Tryz.sizeOf96
  v39 := Tryz.zeroValue96
  t45 := Tryz.underlying114
  a45 := Tryz.isAgg114
  z45 := Tryz.sizeOf114
  v45 := Tryz.zeroValue114
  t46 := Tryz.underlying115
  a46 := Tryz.isAgg115
  z46 := Tryz.sizeOf115
  v46 := Tryz.zeroValue115
  t50 := Tryz.underlying119
  a50 := Tryz.isAgg119
  z50 := Tryz.sizeOf119
  v50 := Tryz.zeroValue119
  t53 := Tryz.underlying122
  a53 := Tryz.isAgg122
  z53 := Tryz.sizeOf122
  v53 := Tryz.zeroValue122
  t55 := Tryz.underlying124
  a55 := Tryz.isAgg124
  z55 := Tryz.sizeOf124
  v55 := Tryz.zeroValue124
  t66 := Tryz.underlying138
  a66 := Tryz.isAgg138
  z66 := Tryz.sizeOf138
  v66 := Tryz.zeroValue138
  t70 := Tryz.underlying142
  a70 := Tryz.isAgg142
  z70 := Tryz.sizeOf142
  v70 := Tryz.zeroValue142
  t76 := Tryz.underlying148
  a76 := Tryz.isAgg148
  z76 := Tryz.sizeOf148
  v76 := Tryz.zeroValue148
  t77 := Tryz.underlying105
  a77 := Tryz.isAgg105
  z77 := Tryz.sizeOf105
  v77 := Tryz.zeroValue105 }
def Tryz.sortSp_ren : Go.Shelf.Ren := ⟨fun | 6 => 42 | 15 => 48 | 14 => 68 | 28 => 78 | 29 => 79 | 20 => 92 | 21 => 93 | 22 => 94 | 23 => 95 | 24 => 96 | 25 => 97 | 26 => 98 | 27 => 99 | 46 => 109 | 47 => 101 | 48 => 102 | 49 => 110 | 50 => 111 | 57 => 114 | n => n, fun | 22 => 90 | 24 => 89 | 25 => 92 | 3 => 3 | 39 => 96 | 0 => 0 | 53 => 122 | 55 => 124 | 4 => 4 | 46 => 115 | 45 => 114 | 50 => 119 | 5 => 5 | 9 => 9 | 66 => 138 | 70 => 142 | 76 => 148 | 77 => 105 | n => n, fun | n => n⟩
theorem Tryz.sortSp : Go.Proofs.SlLaysF0.n6 Tryz.prog Tryz.sortSp_ren := {
  mixed := by kernel_rfl
  f6 := ⟨Tryz.f42.name, by decide, Tryz.func42.trans (congrArg some (by kernel_rfl))⟩
  f14 := ⟨Tryz.f68.name, by decide, Tryz.func68.trans (congrArg some (by kernel_rfl))⟩
  f15 := Tryz.func48.trans (congrArg some (by kernel_rfl))
  f20 := ⟨Tryz.f92.name, by decide, Tryz.func92.trans (congrArg some (by kernel_rfl))⟩
  f21 := ⟨Tryz.f93.name, by decide, Tryz.func93.trans (congrArg some (by kernel_rfl))⟩
  f22 := ⟨Tryz.f94.name, by decide, Tryz.func94.trans (congrArg some (by kernel_rfl))⟩
  f23 := ⟨Tryz.f95.name, by decide, Tryz.func95.trans (congrArg some (by kernel_rfl))⟩
  f24 := ⟨Tryz.f96.name, by decide, Tryz.func96.trans (congrArg some (by kernel_rfl))⟩
  f25 := ⟨Tryz.f97.name, by decide, Tryz.func97.trans (congrArg some (by kernel_rfl))⟩
  f26 := ⟨Tryz.f98.name, by decide, Tryz.func98.trans (congrArg some (by kernel_rfl))⟩
  f27 := ⟨Tryz.f99.name, by decide, Tryz.func99.trans (congrArg some (by kernel_rfl))⟩
  f28 := Tryz.func78.trans (congrArg some (by kernel_rfl))
  f29 := Tryz.func79.trans (congrArg some (by kernel_rfl))
  f46 := ⟨Tryz.f109.name, by decide, Tryz.func109.trans (congrArg some (by kernel_rfl))⟩
  f47 := Tryz.func101.trans (congrArg some (by kernel_rfl))
  f48 := Tryz.func102.trans (congrArg some (by kernel_rfl))
  f49 := ⟨Tryz.f110.name, by decide, Tryz.func110.trans (congrArg some (by kernel_rfl))⟩
  f50 := ⟨Tryz.f111.name, by decide, Tryz.func111.trans (congrArg some (by kernel_rfl))⟩
  f57 := ⟨Tryz.f114.name, by decide, Tryz.func114.trans (congrArg some (by kernel_rfl))⟩
  t0 := Tryz.underlying0
  a0 := Tryz.isAgg0
  z0 := Tryz.sizeOf0
  v0 := Tryz.zeroValue0
  t3 := Tryz.underlying3
  a3 := Tryz.isAgg3
  z3 := Tryz.sizeOf3
  v3 := Tryz.zeroValue3
  t4 := Tryz.underlying4
  a4 := Tryz.isAgg4
  z4 := Tryz.sizeOf4
  v4 := Tryz.zeroValue4
  t5 := Tryz.underlying5
  a5 := Tryz.isAgg5
  z5 := Tryz.sizeOf5
  v5 := Tryz.zeroValue5
  t9 := Tryz.underlying9
  a9 := Tryz.isAgg9
  z9 := Tryz.sizeOf9
  v9 := Tryz.zeroValue9
  t22 := Tryz.underlying90
  a22 := Tryz.isAgg90
  z22 := Tryz.sizeOf90
  v22 := Tryz.zeroValue90
  t25 := Tryz.underlying92
  a25 := Tryz.isAgg92
  z25 := Tryz.sizeOf92
  v25 := Tryz.zeroValue92
  t39 := Tryz.underlying96
  a39 := Tryz.isAgg96
  z39 := Tryz.sizeOf96
  v39 := Tryz.zeroValue96
  t45 := Tryz.underlying114
  a45 := Tryz.isAgg114
  z45 := Tryz.sizeOf114
  v45 := Tryz.zeroValue114
  t46 := Tryz.underlying115
  a46 := Tryz.isAgg115
  z46 := Tryz.sizeOf115
  v46 := Tryz.zeroValue115
  t50 := Tryz.underlying119
  a50 := Tryz.isAgg119
  z50 := Tryz.sizeOf119
  v50 := Tryz.zeroValue119
  t53 := Tryz.underlying122
  a53 := Tryz.isAgg122
  z53 := Tryz.sizeOf122
  v53 := Tryz.zeroValue122
  t55 := Tryz.underlying124
  a55 := Tryz.isAgg124
  z55 := Tryz.sizeOf124
  v55 := Tryz.zeroValue124
  t66 := Tryz.underlying138
  a66 := Tryz.isAgg138
  z66 := Tryz.sizeOf138
  v66 := Tryz.zeroValue138
  t70 := Tryz.underlying142
  a70 := Tryz.isAgg142
  z70 := Tryz.sizeOf142
  v70 := Tryz.zeroValue142
  t76 := Tryz.underlying148
  a76 := Tryz.isAgg148
  z76 := Tryz.sizeOf148
  v76 := Tryz.zeroValue148
  t77 := Tryz.underlying105
  a77 := Tryz.isAgg105
  z77 := Tryz.sizeOf105
  v77 := Tryz.zeroValue105 }
end Go.Proofs
end
section
set_option linter.unusedVariables false
set_option linter.unusedSimpArgs false
namespace Go.Ab
open Go.Shelf Go.RowKit Go.Lib Go.Proofs Go.Sort
def prs (l : List (Int × Int)) : List (List AV) := l.map fun x => [.v (.int .i64 x.1), .v (.int .i64 x.2)]
def encP (x : Int × Int) : List Value := [.int .i64 x.1, .int .i64 x.2]
def pc (l : List (Int × Int)) (j : Nat) : Int := if j % 2 = 0 then (l.getD (j / 2) (0, 0)).1 else (l.getD (j / 2) (0, 0)).2
def flatP (l : List (Int × Int)) : List Value := (List.range (l.length * 2)).map fun j => Value.int .i64 (pc l j)
def sortP (cf : Int × Int → Int × Int → Int) (l : List (Int × Int)) : List (Int × Int) := (pdq (ltOf cf) l.toArray 0 l.toArray.size (Lib.bitLen l.toArray.size) true true).toList
theorem heap_sortP {w : World} {g n : Nat} {os : Array Obj} {cur : Array Value} {e : TypeId} {fr : Nat × Nat} (F : Array Value) (hb : w.heap[g]? = some (.cells cur e fr)) :
    (grow (putRow id (Sort.ahead w n) g 0 F) os).heap[g]? = some (.cells (putCells id 0 F cur) e fr) := by
  have hg : g < w.heap.size := (Array.getElem?_eq_some_iff.1 hb).1
  rw [heap_grow_old _ _ (by simpa using hg)]
  simp [putRow, mapBlock, Sort.ahead, Array.getElem?_modify, hb, onCells]
theorem grownBy_sortP {w : World} {g n : Nat} {os : Array Obj} (F : Array Value) : w.grownBy (grow (putRow id (Sort.ahead w n) g 0 F) os) (some g) := by
  refine ⟨rfl, rfl, rfl, by simp, fun k hk hne => ?_⟩
  rw [heap_grow_old _ _ (by simpa using hk)]
  have : g ≠ k := fun e => hne (by rw [e])
  simp [putRow, mapBlock, Sort.ahead, Array.getElem?_modify, this]
end Go.Ab
end
section
set_option linter.unusedVariables false
set_option linter.unusedSimpArgs false
namespace Go.Ab
open Go.Shelf Go.RowKit Go.Lib Go.Proofs Go.Sort
section
variable {α : Type} [Inhabited α] (enc : α → List Value) (sz : Nat)
def rowsE (l : List α) : List (List AV) := l.map fun x => (enc x).map AV.v
omit [Inhabited α] in
theorem rowsE_len (l : List α) : (rowsE enc l).length = l.length := by simp [rowsE]
omit [Inhabited α] in
def pcE (l : List α) (j : Nat) : Value := cv (enc (l.getD (j / sz) default)) (j % sz)
def flatE (l : List α) : List Value := (List.range (l.length * sz)).map (pcE enc sz l)
theorem flatE_len (l : List α) : (flatE enc sz l).length = l.length * sz := by simp [flatE]
theorem flatE_get (l : List α) (j : Nat) (h : j < l.length * sz) : cv (flatE enc sz l) j = pcE enc sz l j := by
  simp [cv, flatE, List.getD_eq_getElem?_getD, h]
theorem divs {sz i j : Nat} (hj : j < sz) : (i * sz + j) / sz = i ∧ (i * sz + j) % sz = j := by
  have h0 : 0 < sz := by omega
  constructor
  · rw [Nat.add_comm, Nat.add_mul_div_right _ _ h0, Nat.div_eq_of_lt hj, Nat.zero_add]
  · rw [Nat.add_comm, Nat.add_mul_mod_self_right, Nat.mod_eq_of_lt hj]
theorem div_in {sz n j : Nat} (h0 : 0 < sz) (h : j < n * sz) : j / sz < n := (Nat.div_lt_iff_lt_mul h0).2 h
variable (hk : ∀ x, (enc x).length = sz) (h1 : ∀ x, ∀ v ∈ enc x, v.oneCell' = true) (h0 : 0 < sz)
include hk in
theorem rowsE_cell (l : List α) (i j : Nat) (hi : i < l.length) (hj : j < sz) : av ((rowsE enc l).getD i []) j = .v (pcE enc sz l (i * sz + j)) := by
  unfold pcE
  rw [(divs hj).1, (divs hj).2]
  have e3 : (rowsE enc l).getD i [] = (enc (l.getD i default)).map AV.v := by
    simp [rowsE, List.getD_eq_getElem?_getD, hi]
  have hl : j < (enc (l.getD i default)).length := by rw [hk]; exact hj
  rw [e3]
  generalize enc (l.getD i default) = E at *
  simp [av, cv, List.getD_eq_getElem?_getD, List.getElem?_eq_getElem hl]
include hk h0 in
theorem fits_rowsE {st : Nat → Prop} {w : World} {l : List α} {e : TypeId} {c : Value} {xs : List Value} (h : RowFits st w (rowsE enc l) sz e c xs) : xs = flatE enc sz l := by
  have hlen : xs.length = l.length * sz := by rw [h.row.len, rowsE_len]
  apply List.ext_getElem (by rw [flatE_len]; exact hlen)
  intro j h1 h2
  have hjm : j % sz < sz := Nat.mod_lt _ h0
  have hjd : j / sz < l.length := div_in h0 (by omega)
  have hjj : j / sz * sz + j % sz = j := by rw [Nat.mul_comm]; exact Nat.div_add_mod j sz
  have h3 := h.cell (j / sz) (j % sz) (by rw [rowsE_len]; exact hjd) hjm
  rw [rowsE_cell enc sz hk l (j / sz) (j % sz) hjd hjm, hjj] at h3
  have e1 : cv xs j = xs[j] := by simp [cv, List.getD_eq_getElem?_getD, List.getElem?_eq_getElem h1]
  have e2 : (flatE enc sz l)[j] = pcE enc sz l j := by simp [flatE]
  rw [e2, ← e1]
  generalize cv xs j = q at h3 ⊢
  cases h3
  rfl
include hk h1 h0 in
theorem pcE_one (l : List α) (j : Nat) : (pcE enc sz l j).oneCell' = true := by
  unfold pcE
  refine h1 (l.getD (j / sz) default) _ ?_
  have hl : j % sz < (enc (l.getD (j / sz) default)).length := by rw [hk]; exact Nat.mod_lt _ h0
  generalize enc (l.getD (j / sz) default) = E at *
  simp [cv, List.getD_eq_getElem?_getD, List.getElem?_eq_getElem hl]
include hk h1 h0 in
theorem rowsE_fits {st : Nat → Prop} {w : World} {l : List α} {e : TypeId} {c : Value} (h : RowRep w e sz c l.length (flatE enc sz l)) : RowFits st w (rowsE enc l) sz e c (flatE enc sz l) := by
  refine ⟨by intro y hy; obtain ⟨x, _, rfl⟩ := List.mem_map.1 hy; simp [hk], h0, by rw [rowsE_len]; exact h, fun x hx => ?_, fun i j hi hj => ?_⟩
  · obtain ⟨j, _, rfl⟩ := List.mem_map.1 hx
    exact pcE_one enc sz hk h1 h0 l j
  · rw [rowsE_len] at hi
    have hin : i * sz + j < l.length * sz := mul_in hi hj
    rw [rowsE_cell enc sz hk l i j hi hj, flatE_get enc sz l (i * sz + j) hin]
    exact .v _
def sortE (cf : α → α → Int) (l : List α) : List α := (pdq (ltOf cf) l.toArray 0 l.toArray.size (Lib.bitLen l.toArray.size) true true).toList
theorem sortE_spec (cf : α → α → Int) (hO : SWO (ltOf cf)) (l : List α) : (sortE cf l).Perm l ∧ (sortE cf l).Pairwise fun x y => ltOf cf y x = false := by
  have h := pdq_sorts (ltOf cf) hO l.toArray 0 l.toArray.size (Lib.bitLen l.toArray.size) true true (Nat.zero_le _) (Nat.le_refl _) (Or.inl rfl)
  obtain ⟨⟨h1, _, h2⟩, h3⟩ := h
  unfold sortE
  generalize pdq (ltOf cf) l.toArray 0 l.toArray.size (Lib.bitLen l.toArray.size) true true = d at *
  have e1 : (d.extract 0 l.toArray.size).toList = d.toList := by rw [← h1]; simp
  have e2 : (l.toArray.extract 0 l.toArray.size).toList = l := by simp
  rw [e1, e2] at h2
  refine ⟨h2, List.pairwise_iff_getElem.2 fun i j hi hj hij => ?_⟩
  have := h3 i j (Nat.zero_le _) hij (by rw [← h1]; simpa using hj)
  rw [getElem!_pos d j (by simpa using hj), getElem!_pos d i (by simpa using hi)] at this
  simpa using this
theorem sortE_len (cf : α → α → Int) (hO : SWO (ltOf cf)) (l : List α) : (sortE cf l).length = l.length := (sortE_spec cf hO l).1.length_eq
include hk h0 in
theorem flatK_getE (l : List α) (j : Nat) (h : j < l.length * sz) : (flatK enc sz l.toArray)[j]! = pcE enc sz l j := by
  rw [get_flatK enc sz l.toArray j (by simpa using h)]
  have hi : j / sz < l.length := div_in h0 h
  have e1 : l.toArray[j / sz]! = l.getD (j / sz) default := by
    rw [getElem!_pos l.toArray _ (by simpa using hi)]
    simp [List.getD_eq_getElem?_getD, hi]
  rw [e1]
  unfold pcE
  have hl : j % sz < (enc (l.getD (j / sz) default)).length := by rw [hk]; exact Nat.mod_lt _ h0
  generalize enc (l.getD (j / sz) default) = E at *
  rw [getElem!_pos E _ hl]
  simp [cv, List.getD_eq_getElem?_getD, List.getElem?_eq_getElem hl]
include hk h1 h0 in
theorem sortE_cc {P : Program} {ρ : Ren} (L : SlLaysF0.n6 P ρ) (aE : ∀ w, (isAgg (ρ.t 24)).run P w = .ok true w) (zE : ∀ w, (Go.sizeOf (ρ.t 24)).run P w = .ok sz w) (hcall : Callable P (ρ.f 6)) (cf : α → α → Int) (hO : SWO (ltOf cf)) (g : Nat)
    (eg : ∀ args w, (callFunc g args).run P w = .ok (.enter g args) w)
    (hcmp : ∀ blk off n w, CmpLays P g #[] enc sz cf blk off n w)
    (l t : List α) (b nm : Nat) (e : TypeId) (hl : l.length < 1000000) : CallC P (ρ.f 6) [.pre b l.length, .fn g []] [(b, .row (rowsE enc (l ++ t)) sz e)] nm (.tup []) [(b, some (.row (rowsE enc (sortE cf l ++ t)) sz e))] := by
  refine ⟨hcall, fun prov β w cs hn hb hi hv => ?_⟩
  have hlk : ∀ n, updL (listH [(b, Blk.row (rowsE enc (l ++ t)) sz e)]) [(b, some (Blk.row (rowsE enc (sortE cf l ++ t)) sz e))] n = if n = b then some (.row (rowsE enc (sortE cf l ++ t)) sz e) else none := by
    intro n; simp only [updL, upd, listH]; split <;> simp
  have hB := hb b (.row (rowsE enc (l ++ t)) sz e) (by simp [listH])
  obtain ⟨xs, hf⟩ := hB
  obtain rfl := fits_rowsE enc sz hk h0 hf
  obtain ⟨hlen, hv⟩ := hv
  match cs, hlen with
  | [c, c2], _ =>
  have g1 := hv 0 (by simp)
  have g2 := hv 1 (by simp)
  simp only [av_zero, cv, List.getD_cons_zero] at g1
  obtain ⟨ad, n, cap, cap', hβ, rfl, hkc, hm⟩ := g1.pre_inv
  obtain ⟨ys, hc2, hy, _⟩ := SimV.fn_inv (f := g) (cs := []) g2
  have hys : ys = [] := List.eq_nil_of_length_eq_zero (by simpa using hy.symm)
  subst hys
  have hc2 : c2 = .func (.func g) #[] #[] := hc2
  subst hc2
  have hsl := sortE_len cf hO l
  have tail : ∀ w', w.grownBy w' (blkOf (β b)) → RowRep w' e sz (β b) (sortE cf l ++ t).length (flatE enc sz (sortE cf l ++ t)) →
      ∃ c β', Ending.returned (Value.tuple #[]) = .returned c ∧ w'.os = w.os ∧ w'.tape = w.tape ∧ w'.output = w.output ∧ w.heap.size ≤ w'.heap.size ∧ Grows β β' ∧ (∀ n, n ≠ nm → β' n = β n) ∧
      (∀ g, g < w.heap.size → (∀ n b', listH [(b, Blk.row (rowsE enc (l ++ t)) sz e)] n = some b' → n ∈ [(b, some (Blk.row (rowsE enc (sortE cf l ++ t)) sz e))].map (·.1) → blkOf (β n) ≠ some g) → w'.heap[g]? = w.heap[g]?) ∧
      SimV (stb (fun g => prov g ∨ w.heap.size ≤ g) w' β' (updL (listH [(b, Blk.row (rowsE enc (l ++ t)) sz e)]) [(b, some (Blk.row (rowsE enc (sortE cf l ++ t)) sz e))])) β' w' (.tup []) c ∧
      (∀ n b', updL (listH [(b, Blk.row (rowsE enc (l ++ t)) sz e)]) [(b, some (Blk.row (rowsE enc (sortE cf l ++ t)) sz e))] n = some b' → n ∈ [(b, some (Blk.row (rowsE enc (sortE cf l ++ t)) sz e))].map (·.1) → BlkRep (stb (fun g => prov g ∨ w.heap.size ≤ g) w' β' (updL (listH [(b, Blk.row (rowsE enc (l ++ t)) sz e)]) [(b, some (Blk.row (rowsE enc (sortE cf l ++ t)) sz e))])) β' w' b' (β' n) ∧
        ∀ g, blkOf (β' n) = some g → w.heap.size ≤ g ∨ ∃ m b', listH [(b, Blk.row (rowsE enc (l ++ t)) sz e)] m = some b' ∧ m ∈ [(b, some (Blk.row (rowsE enc (sortE cf l ++ t)) sz e))].map (·.1) ∧ blkOf (β m) = some g) ∧
      Inj β' (updL (listH [(b, Blk.row (rowsE enc (l ++ t)) sz e)]) [(b, some (Blk.row (rowsE enc (sortE cf l ++ t)) sz e))]) := by
    intro w' hg hr
    refine ⟨_, β, rfl, hg.os, hg.tape, hg.output, hg.size, Grows.refl _, fun _ _ => rfl, fun g hgl hno => ?_, .pure (.tup [] [] rfl (fun j hj => by simp at hj)), fun n b' hb' _ => ?_, ?_⟩
    · exact hg.block g hgl (fun e' => hno b (.row (rowsE enc (l ++ t)) sz e) (by simp [listH]) (by simp) e'.symm)
    · rw [hlk] at hb'
      split at hb'
      · rename_i hnb; subst hnb
        simp at hb'; subst hb'
        exact ⟨⟨_, rowsE_fits enc sz hk h1 h0 hr⟩, fun g hgb => .inr ⟨n, .row (rowsE enc (l ++ t)) sz e, by simp [listH], by simp, hgb⟩⟩
      · cases hb'
    · intro n m b1 b2 g h1 h2 _ _
      rw [hlk] at h1 h2
      split at h1
      · split at h2
        · simp_all
        · cases h2
      · cases h1
  rw [hβ] at hf
  obtain ⟨hnl, hnc, hcm, hpos⟩ := row_cap hf
  rw [rowsE_len] at hnl
  by_cases hl0 : l = []
  · subst hl0
    have hs0 : sortE cf [] = [] := List.eq_nil_of_length_eq_zero hsl
    refine (AnyF.slices_SortFunc_none L ad cap' (.func (.func g) #[] #[]) w).mono fun e' w' ⟨he, hw⟩ => ?_
    subst he; subst hw
    refine tail w' ⟨rfl, rfl, rfl, Nat.le_refl _, fun _ _ _ => rfl⟩ ?_
    rw [hs0]
    have := hf.row
    rw [rowsE_len] at this
    rw [hβ]
    exact this
  · have hlp : 0 < l.length := List.length_pos_iff.2 hl0
    obtain ⟨gb, cur, rfl, hg, hcur, htk⟩ := hpos (by rw [hnl]; simp; omega)
    have hlt : gb < w.heap.size := (Array.getElem?_eq_some_iff.1 hg).1
    rw [rowsE_len] at htk
    have hla : (l ++ t).length = l.length + t.length := by simp
    have hcs : (l ++ t).length * sz ≤ cur.size := by rw [hcur]; exact Nat.mul_le_mul_right _ (by omega)
    have hcell : ∀ j, j < (l ++ t).length * sz → cur[j]? = some (pcE enc sz (l ++ t) j) := by
      intro j hj
      have h3 : (cur.toList.take ((l ++ t).length * sz))[j]? = (flatE enc sz (l ++ t))[j]? := by rw [htk]
      rw [List.getElem?_take_of_lt hj] at h3
      rw [← Array.getElem?_toList, h3]
      unfold flatE
      rw [List.getElem?_map, List.getElem?_range hj]
      rfl
    have pl : ∀ j, j < l.length * sz → pcE enc sz (l ++ t) j = pcE enc sz l j := by
      intro j hj
      unfold pcE
      have : (l ++ t).getD (j / sz) default = l.getD (j / sz) default := by
        simp only [List.getD_eq_getElem?_getD]
        rw [List.getElem?_append_left (div_in h0 hj)]
      rw [this]
    have pr : ∀ j, l.length * sz ≤ j → pcE enc sz (sortE cf l ++ t) j = pcE enc sz (l ++ t) j := by
      intro j hj
      unfold pcE
      have : (sortE cf l ++ t).getD (j / sz) default = (l ++ t).getD (j / sz) default := by
        simp only [List.getD_eq_getElem?_getD]
        have hd : l.length ≤ j / sz := (Nat.le_div_iff_mul_le h0).2 hj
        rw [List.getElem?_append_right (by omega), List.getElem?_append_right (by omega), hsl]
      rw [this]
    have pl2 : ∀ j, j < l.length * sz → pcE enc sz (sortE cf l ++ t) j = pcE enc sz (sortE cf l) j := by
      intro j hj
      unfold pcE
      have : (sortE cf l ++ t).getD (j / sz) default = (sortE cf l).getD (j / sz) default := by
        simp only [List.getD_eq_getElem?_getD]
        rw [List.getElem?_append_left (by rw [hsl]; exact div_in h0 hj)]
      rw [this]
    have hH : HoldsK enc sz w gb 0 l.toArray := by
      intro j hj
      rw [size_flatK] at hj
      have hj : j < l.length * sz := by simpa using hj
      refine ⟨?_, by simp [World.frozen?, hg]⟩
      rw [flatK_getE enc sz hk h0 l j hj]
      simp only [World.cell?, hg, Nat.zero_add, Option.isSome_none, Bool.false_eq_true, if_false, id]
      have hmul : l.length * sz ≤ (l ++ t).length * sz := Nat.mul_le_mul_right _ (by simp)
      rw [hcell j (by omega), pl j hj]
    have key := AnyQ.slices_SortFunc_eq L sz aE zE enc hk h1 cf hO g #[] gb 0 cap' l.toArray w eg (hcmp _ _ _ _) hH hlt (by simp; omega)
    have es : l.toArray.size = l.length := by simp
    rw [es] at key
    refine key.mono fun e' w' ⟨he, q, os, hw⟩ => ?_
    subst he
    have hsp : (pdq (ltOf cf) l.toArray 0 l.length (Lib.bitLen l.length) true true) = (sortE cf l).toArray := by unfold sortE; simp
    rw [hsp] at hw
    subst hw
    have hbk : blkOf (β b) = some gb := by rw [hβ]; simp [blkOf]; omega
    refine tail _ ?_ ?_
    · rw [hbk]; exact grownBy_sortP _
    · have hla2 : (sortE cf l ++ t).length = n := by simp [hsl]; omega
      rw [hβ, hla2]
      refine .inr ⟨gb, cap, rfl, by omega, by rw [flatE_len, hla2], .inr ⟨gb, cap, _, rfl, Nat.zero_le _, heap_sortP _ hg, hnc, hcm, by simp [putCells, hcur], ?_⟩⟩
      apply List.ext_getElem?
      intro j
      by_cases hj : j < n * sz
      · rw [List.getElem?_take_of_lt hj, Array.getElem?_toList]
        have e1 : (flatE enc sz (sortE cf l ++ t))[j]? = some (pcE enc sz (sortE cf l ++ t) j) := by
          unfold flatE
          rw [List.getElem?_map, List.getElem?_range (by rw [hla2]; exact hj)]
          rfl
        rw [e1]
        simp only [putCells, Array.getElem?_mapIdx, size_flatK, List.size_toArray, hsl, Nat.zero_le, Nat.zero_add, true_and, Nat.sub_zero, id]
        rw [hcell j (by rw [← hnl]; exact hj)]
        simp only [Option.map_some]
        by_cases h3 : j < l.length * sz
        · rw [if_pos h3, flatK_getE enc sz hk h0 _ j (by rw [hsl]; exact h3), pl2 j h3]
        · rw [if_neg h3, pr j (by omega)]
      · rw [List.getElem?_take_eq_none (by omega), List.getElem?_eq_none (by rw [flatE_len, hla2]; omega)]
end
end Go.Ab
end
section
set_option linter.unusedVariables false
set_option linter.unusedSimpArgs false
namespace Go.Proofs
open Go Go.Ab Go.Shelf Go.RowKit Go.Lib Go.Sort
set_option maxRecDepth 100000
def Kept0 (p : Prop) : Prop := p
def or4 (x0 x1 x2 x3 : Int) : Int := if x0 = 0 then if x1 = 0 then if x2 = 0 then x3 else x2 else x1 else x0
set_option maxHeartbeats 8000000 in
theorem or28 (x0 x1 x2 x3 : Int) (b : Nat) (w : World) (h0 : w.cell? ⟨b, 0, none⟩ = some (.int .i64 x0)) (h1 : w.cell? ⟨b, 1, none⟩ = some (.int .i64 x1)) (h2 : w.cell? ⟨b, 2, none⟩ = some (.int .i64 x2)) (h3 : w.cell? ⟨b, 3, none⟩ = some (.int .i64 x3)) : Calls Tryz.prog 26 #[.slice (some ⟨b, 0, none⟩) 4 4] w fun e w' => e = .returned (.int .i64 (or4 x0 x1 x2 x3)) ∧ w' = w := by
  by_cases k0 : x0 = 0
  · subst k0
    by_cases k1 : x1 = 0
    · subst k1
      by_cases k2 : x2 = 0
      · subst k2
        rw [show or4 0 0 0 x3 = x3 from rfl]
        by_cases k3 : x3 = 0
        · subst k3
          go_enter Tryz.func26, Tryz.ntmps26
          go_wp2
          refine wp_loop_rounds 5 ?_
          repeat any_goals (rw [rounds_succ]; go_wp2)
          go_ret
          exact ⟨rfl, rfl⟩
        · have hx' : (x3 == 0) = false := by simpa using k3
          have hx2 : (x3 != 0) = true := by simpa using k3
          clear k3
          go_enter Tryz.func26, Tryz.ntmps26
          go_wp2
          refine wp_loop_rounds 5 ?_
          repeat any_goals (rw [rounds_succ]; go_wp2)
          go_ret
          exact ⟨rfl, rfl⟩
      · have hx' : (x2 == 0) = false := by simpa using k2
        have hx2 : (x2 != 0) = true := by simpa using k2
        have e : or4 0 0 x2 x3 = x2 := by simp [or4, k2]
        rw [e]
        clear k2 e
        go_enter Tryz.func26, Tryz.ntmps26
        go_wp2
        refine wp_loop_rounds 4 ?_
        repeat any_goals (rw [rounds_succ]; go_wp2)
        go_ret
        exact ⟨rfl, rfl⟩
    · have hx' : (x1 == 0) = false := by simpa using k1
      have hx2 : (x1 != 0) = true := by simpa using k1
      have e : or4 0 x1 x2 x3 = x1 := by simp [or4, k1]
      rw [e]
      clear k1 e
      go_enter Tryz.func26, Tryz.ntmps26
      go_wp2
      refine wp_loop_rounds 3 ?_
      repeat any_goals (rw [rounds_succ]; go_wp2)
      go_ret
      exact ⟨rfl, rfl⟩
  · have hx' : (x0 == 0) = false := by simpa using k0
    have hx2 : (x0 != 0) = true := by simpa using k0
    have e : or4 x0 x1 x2 x3 = x0 := by simp [or4, k0]
    rw [e]
    clear k0 e
    go_enter Tryz.func26, Tryz.ntmps26
    go_wp2
    refine wp_loop_rounds 2 ?_
    repeat any_goals (rw [rounds_succ]; go_wp2)
    go_ret
    exact ⟨rfl, rfl⟩
set_option maxHeartbeats 1000000 in
theorem closure27w (x y : Rc) (W : World) :
    Calls Tryz.prog 25 #[.agg #[.int .i64 x.a, .int .i64 x.b, .int .i64 x.c, .int .i64 x.d], .agg #[.int .i64 y.a, .int .i64 y.b, .int .i64 y.c, .int .i64 y.d]] W fun e w' => e = .returned (.int .i64 (or4 (wrap64 (x.b - y.b)) (wrap64 (x.a - y.a)) (wrap64 (x.d - y.d)) (wrap64 (x.c - y.c)))) ∧ ∃ q os', w' = grow (W.drewN q) os' := by
  obtain ⟨w3, hw3⟩ : ∃ w3, w3 = (((W.alloc (.cells #[.int .i64 x.a, .int .i64 x.b, .int .i64 x.c, .int .i64 x.d] 54)).alloc (.cells #[.int .i64 y.a, .int .i64 y.b, .int .i64 y.c, .int .i64 y.d] 54)).alloc (.cells #[.int .i64 (wrap64 (x.b - y.b)), .int .i64 (wrap64 (x.a - y.a)), .int .i64 (wrap64 (x.d - y.d)), .int .i64 (wrap64 (x.c - y.c))] 3)) := ⟨_, rfl⟩
  obtain ⟨w2, hw2⟩ : ∃ w2, w2 = (W.alloc (.cells #[.int .i64 x.a, .int .i64 x.b, .int .i64 x.c, .int .i64 x.d] 54)).alloc (.cells #[.int .i64 y.a, .int .i64 y.b, .int .i64 y.c, .int .i64 y.d] 54) := ⟨_, rfl⟩
  have hs : W.heap.size + 1 + 1 = w2.heap.size := by rw [hw2]; simp
  have hw3' : w3 = w2.alloc (.cells #[.int .i64 (wrap64 (x.b - y.b)), .int .i64 (wrap64 (x.a - y.a)), .int .i64 (wrap64 (x.d - y.d)), .int .i64 (wrap64 (x.c - y.c))] 3) := by rw [hw3, hw2]
  have hcall := or28 (wrap64 (x.b - y.b)) (wrap64 (x.a - y.a)) (wrap64 (x.d - y.d)) (wrap64 (x.c - y.c)) (W.heap.size + 1 + 1) w3 (by rw [hw3', hs]; simp) (by rw [hw3', hs]; simp) (by rw [hw3', hs]; simp) (by rw [hw3', hs]; simp)
  clear hw2 hs hw3'
  have hfin : Kept0 (∃ q os', w3 = grow (W.drewN q) os') := ⟨0, _, by rw [hw3, alloc_eq_grow, alloc_eq_grow, alloc_eq_grow, grow_grow, grow_grow]; rfl⟩
  generalize or4 (wrap64 (x.b - y.b)) (wrap64 (x.a - y.a)) (wrap64 (x.d - y.d)) (wrap64 (x.c - y.c)) = R at *
  go_enter Tryz.func25, Tryz.ntmps25
  go_wp2_with (go_at_call 26; rw [← hw3]; refine hcall.mono ?_; rintro e w' ⟨rfl, hw4⟩; rw [hw4])
  go_ret
  refine ⟨rfl, ?_⟩
  have h2 : ∃ q os', w3 = grow (W.drewN q) os' := hfin
  rw [hw3] at h2
  exact h2
theorem closure27 (x y : Rc) (w1 : IntKind.i64.wrap (x.b - y.b) = x.b - y.b) (w2 : IntKind.i64.wrap (x.a - y.a) = x.a - y.a) (w3 : IntKind.i64.wrap (x.d - y.d) = x.d - y.d) (w4 : IntKind.i64.wrap (x.c - y.c) = x.c - y.c) (W : World) :
    Calls Tryz.prog 25 #[.agg #[.int .i64 x.a, .int .i64 x.b, .int .i64 x.c, .int .i64 x.d], .agg #[.int .i64 y.a, .int .i64 y.b, .int .i64 y.c, .int .i64 y.d]] W fun e w' => e = .returned (.int .i64 (or4 (x.b - y.b) (x.a - y.a) (x.d - y.d) (x.c - y.c))) ∧ ∃ q os', w' = grow (W.drewN q) os' := by
  have h := closure27w x y W
  have e : ∀ n, IntKind.i64.wrap n = wrap64 n := fun n => IntWalk.i64_left n
  rw [e] at w1 w2 w3 w4
  rw [w1, w2, w3, w4] at h
  exact h
set_option maxHeartbeats 4000000 in
theorem closure41 (x y : Sp) (w1 : IntKind.i64.wrap (x.a - y.a) = x.a - y.a) (W : World) :
    Calls Tryz.prog 43 #[.agg #[.int .i64 x.a, .int .i64 x.b], .agg #[.int .i64 y.a, .int .i64 y.b]] W fun e w' => e = .returned (.int .i64 (x.a - y.a)) ∧ ∃ q os', w' = grow (W.drewN q) os' := by
  go_enter Tryz.func43, Tryz.ntmps43
  go_wp2
  go_ret
  exact ⟨rfl, 0, _, by rw [alloc_eq_grow, alloc_eq_grow, grow_grow]; rfl⟩
structure RcB where
  val : Rc
  ok : (-40000 ≤ val.a ∧ val.a ≤ 40000) ∧ (-40000 ≤ val.b ∧ val.b ≤ 40000) ∧ (-40000 ≤ val.c ∧ val.c ≤ 40000) ∧ (-40000 ≤ val.d ∧ val.d ≤ 40000)
instance : Inhabited RcB := ⟨⟨zeroRc, by decide⟩⟩
def encRc (x : RcB) : List Value := [.int .i64 x.val.a, .int .i64 x.val.b, .int .i64 x.val.c, .int .i64 x.val.d]
def cfRc (x y : RcB) : Int := or4 (x.val.b - y.val.b) (x.val.a - y.val.a) (x.val.d - y.val.d) (x.val.c - y.val.c)
theorem ltRc (x y : RcB) : ltOf cfRc x y = true ↔ rcLt x.val y.val := by
  unfold ltOf cfRc or4 rcLt
  rw [decide_eq_true_eq]
  split
  · split
    · split <;> omega
    · omega
  · omega
theorem ltRcF (x y : RcB) : ltOf cfRc x y = false ↔ ¬ rcLt x.val y.val := by rw [← ltRc, Bool.eq_false_iff]
theorem swoRc : SWO (ltOf cfRc) where
  irrefl x := by rw [ltRcF]; exact rcLt_irrefl _
  trans x y z h1 h2 := by rw [ltRc] at *; exact rcLt_trans _ _ _ h1 h2
  ntrans x y z h1 h2 := by rw [ltRcF] at *; unfold rcLt at *; omega
theorem cmpLays27 (blk off n : Nat) (w : World) : CmpLays Tryz.prog 25 #[] encRc 4 cfRc blk off n w :=
  fun _ _ _ _ x y => closure27 x.val y.val (wrap_i64 (by have := x.ok; have := y.ok; omega) (by have := x.ok; have := y.ok; omega)) (wrap_i64 (by have := x.ok; have := y.ok; omega) (by have := x.ok; have := y.ok; omega)) (wrap_i64 (by have := x.ok; have := y.ok; omega) (by have := x.ok; have := y.ok; omega)) (wrap_i64 (by have := x.ok; have := y.ok; omega) (by have := x.ok; have := y.ok; omega)) _
theorem smallOk {r : Rc} (h : Small r) : (-40000 ≤ r.a ∧ r.a ≤ 40000) ∧ (-40000 ≤ r.b ∧ r.b ≤ 40000) ∧ (-40000 ≤ r.c ∧ r.c ≤ 40000) ∧ (-40000 ≤ r.d ∧ r.d ≤ 40000) := ⟨h.a, h.b, h.c, h.d⟩
noncomputable def toRB (s : Rc) : RcB := by
  classical
  exact if h : (-40000 ≤ s.a ∧ s.a ≤ 40000) ∧ (-40000 ≤ s.b ∧ s.b ≤ 40000) ∧ (-40000 ≤ s.c ∧ s.c ≤ 40000) ∧ (-40000 ≤ s.d ∧ s.d ≤ 40000) then ⟨s, h⟩ else default
theorem toRB_val {s : Rc} (h : Small s) : (toRB s).val = s := by
  unfold toRB
  rw [dif_pos (smallOk h)]
theorem mapRB {l : List Rc} (h : ∀ s ∈ l, Small s) : (l.map toRB).map RcB.val = l := by
  rw [List.map_map]
  have : ∀ s ∈ l, (RcB.val ∘ toRB) s = s := fun s hs => toRB_val (h s hs)
  rw [List.map_congr_left this, List.map_id']
theorem rowsRB (l : List RcB) : rowsE encRc l = rcs (l.map RcB.val) := by
  unfold rowsE rcs
  rw [List.map_map]
  rfl
theorem sort26_cc (l : List Rc) (hb : ∀ s ∈ l, Small s) (hl : l.length < 1000000) : ∃ m : List Rc, m.Perm l ∧ m.Pairwise (fun x y => ¬ rcLt y x) ∧
    ∀ b nm, CallC Tryz.prog 24 [.pre b l.length, .fn 25 []] [(b, .row (rcs l) 4 54)] nm (.tup []) [(b, some (.row (rcs m) 4 54))] := by
  have hs := sortE_spec cfRc swoRc (l.map toRB)
  have key := fun b nm => sortE_cc encRc 4 (fun _ => rfl) (fun x v hv => by simp [encRc] at hv; rcases hv with rfl | rfl | rfl | rfl <;> rfl) (by decide) Tryz.sortRc (fun w => Tryz.isAgg54 w) (fun w => Tryz.sizeOf54 w) ⟨_, Tryz.func24, by kernel_rfl, by kernel_rfl⟩ cfRc swoRc 25 (enters_of Tryz.func25 (by kernel_rfl) rfl) cmpLays27 (l.map toRB) [] b nm 54 (by simpa using hl)
  refine ⟨(sortE cfRc (l.map toRB)).map RcB.val, ?_, ?_, fun b nm => ?_⟩
  · have := hs.1.map RcB.val
    rw [mapRB hb] at this
    exact this
  · rw [List.pairwise_map]
    refine hs.2.imp fun {x y} h => ?_
    rw [ltRcF] at h
    exact h
  · have h := key b nm
    rw [List.append_nil, List.append_nil, rowsRB, rowsRB, mapRB hb, List.length_map] at h
    exact h
structure SpB where
  val : Sp
  ok : -40000 ≤ val.a ∧ val.a ≤ 40000
instance : Inhabited SpB := ⟨⟨zeroSp, by decide⟩⟩
def encSp (x : SpB) : List Value := [.int .i64 x.val.a, .int .i64 x.val.b]
def cfSp (x y : SpB) : Int := x.val.a - y.val.a
theorem ltSp (x y : SpB) : ltOf cfSp x y = true ↔ x.val.a < y.val.a := by
  unfold ltOf cfSp
  rw [decide_eq_true_eq]
  omega
theorem ltSpF (x y : SpB) : ltOf cfSp x y = false ↔ ¬ x.val.a < y.val.a := by rw [← ltSp, Bool.eq_false_iff]
theorem swoSp : SWO (ltOf cfSp) where
  irrefl x := by rw [ltSpF]; omega
  trans x y z h1 h2 := by rw [ltSp] at *; omega
  ntrans x y z h1 h2 := by rw [ltSpF] at *; omega
theorem cmpLays41 (blk off n : Nat) (w : World) : CmpLays Tryz.prog 43 #[] encSp 2 cfSp blk off n w :=
  fun _ _ _ _ x y => closure41 x.val y.val (wrap_i64 (by have := x.ok; have := y.ok; omega) (by have := x.ok; have := y.ok; omega)) _
def toSB (s : Sp) : SpB := if h : -40000 ≤ s.a ∧ s.a ≤ 40000 then ⟨s, h⟩ else default
theorem toSB_val {s : Sp} (h : -40000 ≤ s.a ∧ s.a ≤ 40000) : (toSB s).val = s := by
  unfold toSB
  rw [dif_pos h]
theorem mapSB {l : List Sp} (h : ∀ s ∈ l, -40000 ≤ s.a ∧ s.a ≤ 40000) : (l.map toSB).map SpB.val = l := by
  rw [List.map_map]
  have : ∀ s ∈ l, (SpB.val ∘ toSB) s = s := fun s hs => toSB_val (h s hs)
  rw [List.map_congr_left this, List.map_id']
theorem rowsSB (l : List SpB) : rowsE encSp l = sps (l.map SpB.val) := by
  unfold rowsE sps
  rw [List.map_map]
  rfl
theorem sort40_cc (l : List Sp) (hb : ∀ s ∈ l, -40000 ≤ s.a ∧ s.a ≤ 40000) (hl : l.length < 1000000) : ∃ m : List Sp, m.Perm l ∧ m.Pairwise (fun x y => x.a ≤ y.a) ∧
    ∀ b nm, CallC Tryz.prog 42 [.pre b l.length, .fn 43 []] [(b, .row (sps l) 2 89)] nm (.tup []) [(b, some (.row (sps m) 2 89))] := by
  have hs := sortE_spec cfSp swoSp (l.map toSB)
  have key := fun b nm => sortE_cc encSp 2 (fun _ => rfl) (fun x v hv => by simp [encSp] at hv; rcases hv with rfl | rfl <;> rfl) (by decide) Tryz.sortSp (fun w => Tryz.isAgg89 w) (fun w => Tryz.sizeOf89 w) ⟨_, Tryz.func42, by kernel_rfl, by kernel_rfl⟩ cfSp swoSp 43 (enters_of Tryz.func43 (by kernel_rfl) rfl) cmpLays41 (l.map toSB) [] b nm 89 (by simpa using hl)
  refine ⟨(sortE cfSp (l.map toSB)).map SpB.val, ?_, ?_, fun b nm => ?_⟩
  · have := hs.1.map SpB.val
    rw [mapSB hb] at this
    exact this
  · rw [List.pairwise_map]
    refine hs.2.imp fun {x y} h => ?_
    rw [ltSpF] at h
    omega
  · have h := key b nm
    rw [List.append_nil, List.append_nil, rowsSB, rowsSB, mapSB hb, List.length_map] at h
    exact h
end Go.Proofs
end
section
set_option linter.unusedVariables false
set_option linter.unusedSimpArgs false
namespace Go.Proofs
open Go Go.Ab
set_option maxHeartbeats 8000000
set_option maxRecDepth 100000
attribute [local irreducible] Awp aops aopsL Go.Ab.Pure PureOwn
theorem callC_own {P : Program} {f g nm : Nat} {es : List (List AV)} {sz b : Nat} {e : TypeId} {r : AV} {ups : List (Nat × Option Blk)} (h : CallC P f [.pre b es.length, .fn g []] [(b, .row es sz e)] nm r ups) : CallC P f [.own b, .fn g []] [(b, .row es sz e)] nm r ups := by
  refine ⟨h.1, fun prov β w cs hn hb hi hv => h.2 prov β w cs hn hb hi ⟨hv.1, fun j hj => ?_⟩⟩
  match j, hj with
  | 0, _ =>
    have g1 := hv.2 0 (by simp)
    simp only [av_zero] at g1 ⊢
    obtain ⟨h1, a, n, cap, h2⟩ := SimV.own_inv g1
    have hB := hb b (.row es sz e) (by simp [listH])
    obtain ⟨xs, hf⟩ := hB
    rw [← h1, h2] at hf
    obtain ⟨hnl, hnc, hcm, _⟩ := row_cap hf
    subst hnl
    rw [h2]
    exact .pre b es.length (h1 ▸ h2) hnc hcm
  | 1, _ =>
    have g1 := hv.2 1 (by simp)
    exact g1
theorem bes_no {wid f u : Int} {l : List Rc} {i : Nat} (h : i < l.length) (hb : besB f u (l.getD i zeroRc) = false) : besE wid f u (l.take (i + 1)) = besE wid f u (l.take i) := by
  unfold besE
  rw [take_snoc l zeroRc i h, List.filter_append]
  generalize l.getD i zeroRc = t at *
  simp [hb]
theorem bes_yes {wid f u : Int} {l : List Rc} {i : Nat} (h : i < l.length) (hb : besB f u (l.getD i zeroRc) = true) : besE wid f u (l.take (i + 1)) = besE wid f u (l.take i) ++ [⟨(l.getD i zeroRc).b, (l.getD i zeroRc).d⟩] := by
  unfold besE
  rw [take_snoc l zeroRc i h, List.filter_append]
  generalize l.getD i zeroRc = t at *
  simp [hb]
theorem bes_len (wid f u : Int) (l : List Rc) : (besE wid f u l).length ≤ l.length + 1 := by
  unfold besE
  have := List.length_filter_le (besB f u) l
  simp only [List.length_cons, List.length_map]
  omega
theorem drop_step {α : Type} (l : List α) (d : α) (i : Nat) (h : i < l.length) : l.drop i = l.getD i d :: l.drop (i + 1) := by
  rw [getD_get l d i h]
  exact List.drop_eq_getElem_cons h
theorem col_ok (len wid f u : Int) (tk : List Rc) (hl : tk.length ≤ 32) (hw : 1 ≤ wid ∧ wid ≤ 32768) (hb : ∀ t ∈ tk, -40000 ≤ t.b ∧ t.b ≤ 40000) (hS : Solid tk) : Pure Tryz.prog 22 [plAv len wid tk, .v (.int .i64 f), .v (.int .i64 u)] (.sl (rcs (colE wid f u tk))) := by
  have hbl := bes_len wid f u tk
  obtain ⟨m, hm, hma, cs⟩ := sort40_cc (besE wid f u tk) (by
    intro s hs
    rcases (bes_mem wid f u tk s).1 hs with rfl | ⟨t, ht, _, rfl⟩
    · simp only []; omega
    · exact hb t ht) (by omega)
  have cs1 := fun b nm => by have h := cs b nm; rw [← sps_len] at h; exact callC_own h
  have hcol := col_same hS (fun s => hm.mem_iff) hma
  have hml : m.length ≤ 33 := by rw [hm.length_eq]; omega
  obtain ⟨R, hR⟩ : ∃ R, colR wid f u 0 m = R := ⟨_, rfl⟩
  rw [← hcol, hR]
  have ww : IntKind.i64.wrap (wid + 1) = wid + 1 := wrap_i64 (by omega) (by omega)
  clear hcol hm hma cs hbl hb hS
  refine fn_pure Tryz.F22 (Nat.le_of_ble_eq_true rfl) ?_; unfold Tryz.ac22
  repeat' (first
 | (apply Awp.sreg; (case hn => (simp only [List.length_cons, List.length_nil, Nat.reduceAdd] <;> rfl)))
 | (refine st_nil ?_)
 | (apply st_a; (case hc => rfl); (case he => (simp only [go_sem, *] <;> rfl)); (case hu => (simp only [updL_nil, updL_cons] <;> rfl)); (case hp => first | trivial | (simp; done)))
 | refine Awp.block ?_
 | refine Awp.seq ?_)
  refine Awp.loop (fun i : Nat => i ≤ tk.length) 80 (fun i => mkS [(1, .v (.int .i64 f)), (2, .v (.int .i64 u)), (3, .bp 0 0), (7, .own 1), (23, .sl (rcs tk)), (24, .v (.int .i64 tk.length)), (25, .v (.int .i64 i))] [(0, .box [.v (.int .i64 len), .v (.int .i64 wid), .sl (rcs tk)]), (1, .row (sps (besE wid f u (tk.take i))) 2 89)]) (fun i => tk.length - i) 0 (by omega) ?_ ?_
  · have e1 : sps (besE wid f u (tk.take 0)) = [[.v (.int .i64 wid), .v (.int .i64 (wid + 1))]] := rfl
    rw [e1]
    clear cs1
    (apply Ghost.mk [(0, 0), (1, 8)] []; (case hdead => rfl); (case hinj => rfl); (case hV => (simp only [go_sem, *]) <;> (repeat' (first | refine And.intro ?_ ?_ | exact View.int (by first | rfl | omega | (simp; done) | (rw [wrap_i64] <;> (try simp only [Int.natCast_add]) <;> omega) | (simp [*]; done)) | exact .bp rfl (by decide) | exact .own rfl (by decide)))); (case hB => (simp only [go_sem, *]) <;> (repeat' (first | refine And.intro ?_ ?_ | exact ⟨_, rfl, BView.boxF rfl⟩ | exact ⟨_, rfl, .rowE (by first | rfl | omega | (simp; done) | (rw [wrap_i64] <;> (try simp only [Int.natCast_add]) <;> omega) | (simp [*]; done))⟩))))
  · intro i hi
    by_cases hlt : i < tk.length
    · have hlt' : (i : Int) < tk.length := by omega
      have hat := rcs_at tk i hlt
      have hz : ((tk.getD i zeroRc).cells).length = 4 := rfl
      have hno := bes_no (wid := wid) (f := f) (u := u) hlt
      have hye := bes_yes (wid := wid) (f := f) (u := u) hlt
      have hln := bes_len wid f u (tk.take i)
      rw [List.length_take_of_le hi] at hln
      clear cs1
      generalize tk.getD i zeroRc = t at *
      generalize besE wid f u (tk.take i) = L at *
      cases hc : besB f u t
      · have hno := hno hc
        unfold besB at hc
        clear hye
        repeat' (first
 | (apply Awp.sreg; (case hn => (simp only [List.length_cons, List.length_nil, Nat.reduceAdd] <;> rfl)))
 | (refine st_nil ?_)
 | (apply st_a; (case hc => rfl); (case he => (simp only [go_sem, *] <;> rfl)); (case hu => (simp only [updL_nil, updL_cons] <;> rfl)); (case hp => first | trivial | omega))
 | (apply st_m; (case hc => rfl); (case hg => (simp only [go_sem, *] <;> rfl)); (case he => (intro hQz; (try simp only [wantB_t, wantB_f, Bool.and_eq_true, Bool.not_eq_true', Bool.not_true, Bool.not_false, and_true, true_and] at hQz); simp only [go_sem, *] <;> rfl)); (case hp => (intro hQz; (try simp only [wantB_t, wantB_f, Bool.and_eq_true, Bool.not_eq_true', Bool.or_eq_false_iff, decide_eq_true_eq, decide_eq_false_iff_not, beq_iff_eq, beq_eq_false_iff_ne, bne_iff_ne, bne_eq_false_iff_eq, Int.not_lt, Int.not_le, Int.ofNat_lt, Int.ofNat_le] at hQz); first | trivial)))
 | (apply Awp.reg; (case hn => (simp only [List.length_cons, List.length_nil, Nat.reduceAdd] <;> rfl)))
 | (refine Awp.skip ?_; try simp only [go_sem, *])
 | refine Awp.block ?_
 | (apply Awp.cond; (case hc => (simp only [go_sem, *] <;> rfl)); all_goals (intro hg; (try simp only [Bool.not_true, Bool.not_false, reduceCtorEq] at hg)))
 | refine Awp.seq ?_)
        all_goals (refine ⟨i + 1, by omega, by omega, ?_⟩; rw [hno]; clear hno; (apply Ghost.mk [(0, 0), (1, 1)] []; (case hdead => rfl); (case hinj => rfl); (case hV => (simp only [go_sem, *]) <;> (repeat' (first | refine And.intro ?_ ?_ | exact View.int (by first | rfl | omega | (simp; done) | (rw [wrap_i64] <;> (try simp only [Int.natCast_add]) <;> omega) | (simp [*]; done)) | exact .bp rfl (by decide) | exact .own rfl (by decide)))); (case hB => (simp only [go_sem, *]) <;> (repeat' (first | refine And.intro ?_ ?_ | exact ⟨_, rfl, BView.boxF rfl⟩ | exact ⟨_, rfl, .rowE (by first | rfl | omega | (simp; done) | (rw [wrap_i64] <;> (try simp only [Int.natCast_add]) <;> omega) | (simp [*]; done))⟩)))))
      · have hye := hye hc
        unfold besB at hc
        clear hno
        repeat' (first
 | (apply Awp.sreg; (case hn => (simp only [List.length_cons, List.length_nil, Nat.reduceAdd] <;> rfl)))
 | (refine st_nil ?_)
 | (apply st_a; (case hc => rfl); (case he => (simp only [go_sem, *] <;> rfl)); (case hu => (simp only [updL_nil, updL_cons] <;> rfl)); (case hp => first | trivial | omega | (simp; done) | (simp; omega)))
 | (apply st_m; (case hc => rfl); (case hg => (simp only [go_sem, *] <;> rfl)); (case he => (intro hQz; (try simp only [wantB_t, wantB_f, Bool.and_eq_true, Bool.not_eq_true', Bool.not_true, Bool.not_false, and_true, true_and] at hQz); simp only [go_sem, *] <;> rfl)); (case hp => (intro hQz; (try simp only [wantB_t, wantB_f, Bool.and_eq_true, Bool.not_eq_true', Bool.or_eq_false_iff, decide_eq_true_eq, decide_eq_false_iff_not, beq_iff_eq, beq_eq_false_iff_ne, bne_iff_ne, bne_eq_false_iff_eq, Int.not_lt, Int.not_le, Int.ofNat_lt, Int.ofNat_le] at hQz); first | trivial)))
 | (apply Awp.reg; (case hn => (simp only [List.length_cons, List.length_nil, Nat.reduceAdd] <;> rfl)))
 | (refine Awp.skip ?_; try simp only [go_sem, *])
 | refine Awp.block ?_
 | (apply Awp.cond; (case hc => (simp only [go_sem, *] <;> rfl)); all_goals (intro hg; (try simp only [Bool.not_true, Bool.not_false, reduceCtorEq] at hg)))
 | refine Awp.seq ?_)
        all_goals (refine ⟨i + 1, by omega, by omega, ?_⟩; rw [hye, ← sps_snoc]; clear hye; (apply Ghost.mk [(0, 0), (1, 106)] []; (case hdead => rfl); (case hinj => rfl); (case hV => (simp only [go_sem, *]) <;> (repeat' (first | refine And.intro ?_ ?_ | exact View.int (by first | rfl | omega | (simp; done) | (rw [wrap_i64] <;> (try simp only [Int.natCast_add]) <;> omega) | (simp [*]; done)) | exact .bp rfl (by decide) | exact .own rfl (by decide)))); (case hB => (simp only [go_sem, *]) <;> (repeat' (first | refine And.intro ?_ ?_ | exact ⟨_, rfl, BView.boxF rfl⟩ | exact ⟨_, rfl, .rowE (by first | rfl | omega | (simp; done) | (rw [wrap_i64] <;> (try simp only [Int.natCast_add]) <;> omega) | (simp [*]; done))⟩)))))
    · have hlt' : ¬ (i : Int) < tk.length := by omega
      have e1 : tk.take i = tk := List.take_of_length_le (by omega)
      rw [e1]
      clear e1 hlt
      repeat' (first
 | (apply Awp.sreg; (case hn => (simp only [List.length_cons, List.length_nil, Nat.reduceAdd] <;> rfl)))
 | (refine st_nil ?_)
 | (apply st_a; (case hc => rfl); (case he => (simp only [go_sem, *] <;> rfl)); (case hu => (simp only [updL_nil, updL_cons] <;> rfl)); (case hp => first | trivial))
 | (apply st_cc; (case hc => (simp only [go_sem, *] <;> rfl)); (case hcc => exact (cs1 _ _)); (case hh => (first | (simp only [List.mem_singleton, forall_eq]; first | (simp only [go_sem, *] <;> rfl) | (simp only [go_sem, *]; simp [ints])) | (intro p hp; cases hp; done) | (intro p hp; simp only [List.mem_cons, List.not_mem_nil, or_false] at hp; rcases hp with rfl | rfl | rfl | rfl | rfl | rfl | rfl <;> (simp only [go_sem, *] <;> rfl)) | (intro p hp; simp only [List.mem_cons, List.not_mem_nil, or_false] at hp; rcases hp with rfl | rfl | rfl | rfl <;> (simp only [go_sem, *] <;> rfl)))); (case hu => (first | (simp; done) | decide)); (case hm => (first | decide | (simp; done))); (case hw => (simp only [updL_nil, updL_cons] <;> rfl)))
 | (refine Awp.exit ?_; try simp only [go_sem, *])
 | refine Awp.block ?_
 | (apply Awp.cond; (case hc => (simp only [go_sem, *] <;> rfl)); all_goals (intro hg; (try simp only [Bool.not_true, Bool.not_false, reduceCtorEq] at hg)))
 | refine Awp.seq ?_)
      clear cs1
      all_goals (
      refine Awp.loop (fun x : Nat × Int × List Rc => x.1 ≤ m.length ∧ x.2.2.length ≤ x.1 ∧ x.2.2 ++ colR wid f u x.2.1 (m.drop x.1) = R) 300 (fun x => mkS [(1, .v (.int .i64 f)), (2, .v (.int .i64 u)), (3, .bp 0 0), (10, .own 2), (11, .v (.int .i64 x.2.1)), (54, .own 1), (55, .v (.int .i64 m.length)), (56, .v (.int .i64 x.1))] [(0, .box [.v (.int .i64 len), .v (.int .i64 wid), .sl (rcs tk)]), (1, .row (sps m) 2 89), (2, .row (rcs x.2.2) 4 54)]) (fun x => m.length - x.1) (0, 0, []) (by simp [hR]) ?_ ?_
      · refine Ghost.trans (Ghost.name 10 4 54 rfl (by decide)) ?_
        have e1 : rcs [] = [] := rfl
        (apply Ghost.mk [(0, 0), (1, 1), (2, 88)] []; (case hdead => rfl); (case hinj => rfl); (case hV => (simp only [go_sem, *]) <;> (repeat' (first | refine And.intro ?_ ?_ | exact View.int (by first | rfl | omega | (simp; done) | (rw [wrap_i64] <;> (try simp only [Int.natCast_add]) <;> omega) | (simp [*]; done)) | exact .bp rfl (by decide) | exact .own rfl (by decide)))); (case hB => (simp only [go_sem, *]) <;> (repeat' (first | refine And.intro ?_ ?_ | exact ⟨_, rfl, BView.boxF rfl⟩ | exact ⟨_, rfl, .rowE (by first | rfl | omega | (simp; done) | (rw [wrap_i64] <;> (try simp only [Int.natCast_add]) <;> omega) | (simp [*]; done))⟩))))
      · intro ⟨i, y, out⟩ ⟨h1, h2, h3⟩
        dsimp only at h1 h2 h3 ⊢
        by_cases hlt : i < m.length
        · have hlt' : (i : Int) < m.length := by omega
          have hat := sps_at m i hlt
          have hz : ((m.getD i zeroSp).cells).length = 2 := rfl
          rw [drop_step m zeroSp i hlt] at h3
          generalize m.getD i zeroSp = s at *
          have e1 := mnI s.a wid
          have e2 := mxI y s.b
          unfold colR at h3
          cases hc : decide (y < min s.a wid)
          · rw [if_neg (of_decide_eq_false hc), List.nil_append] at h3
            repeat' (first
 | (apply Awp.sreg; (case hn => (simp only [List.length_cons, List.length_nil, Nat.reduceAdd] <;> rfl)))
 | (refine st_nil ?_)
 | (apply st_a; (case hc => rfl); (case he => (simp only [go_sem, *] <;> rfl)); (case hu => (simp only [updL_nil, updL_cons] <;> rfl)); (case hp => first | trivial | omega))
 | (apply Awp.reg; (case hn => (simp only [List.length_cons, List.length_nil, Nat.reduceAdd] <;> rfl)))
 | (refine Awp.skip ?_; try simp only [go_sem, *])
 | refine Awp.block ?_
 | (apply Awp.cond; (case hc => (simp only [go_sem, *] <;> rfl)); all_goals (intro hg; (try simp only [Bool.not_true, Bool.not_false, reduceCtorEq] at hg)))
 | refine Awp.seq ?_)
            all_goals (refine ⟨(i + 1, max y s.b, out), ⟨by dsimp only; omega, by dsimp only; omega, h3⟩, by dsimp only; omega, ?_⟩; dsimp only; clear h3; (apply Ghost.mk [(0, 0), (1, 1), (2, 2)] []; (case hdead => rfl); (case hinj => rfl); (case hV => (simp only [go_sem, *]) <;> (repeat' (first | refine And.intro ?_ ?_ | exact View.int (by first | rfl | omega | (simp; done) | (rw [wrap_i64] <;> (try simp only [Int.natCast_add]) <;> omega) | (simp [*]; done)) | exact .bp rfl (by decide) | exact .own rfl (by decide)))); (case hB => (simp only [go_sem, *]) <;> (repeat' (first | refine And.intro ?_ ?_ | exact ⟨_, rfl, BView.boxF rfl⟩ | exact ⟨_, rfl, .rowE (by first | rfl | omega | (simp; done) | (rw [wrap_i64] <;> (try simp only [Int.natCast_add]) <;> omega) | (simp [*]; done))⟩)))))
          · rw [if_pos (of_decide_eq_true hc), ← List.append_assoc] at h3
            have e3 := rcs_snoc out ⟨f, y, u, min s.a wid⟩
            repeat' (first
 | (apply Awp.sreg; (case hn => (simp only [List.length_cons, List.length_nil, Nat.reduceAdd] <;> rfl)))
 | (refine st_nil ?_)
 | (apply st_a; (case hc => rfl); (case he => (simp only [go_sem, *] <;> rfl)); (case hu => (simp only [updL_nil, updL_cons] <;> rfl)); (case hp => first | trivial | omega | (simp; done) | (simp; omega)))
 | (apply Awp.reg; (case hn => (simp only [List.length_cons, List.length_nil, Nat.reduceAdd] <;> rfl)))
 | (refine Awp.skip ?_; try simp only [go_sem, *])
 | refine Awp.block ?_
 | (apply Awp.cond; (case hc => (simp only [go_sem, *] <;> rfl)); all_goals (intro hg; (try simp only [Bool.not_true, Bool.not_false, reduceCtorEq] at hg)))
 | refine Awp.seq ?_)
            all_goals (refine ⟨(i + 1, max y s.b, out ++ [⟨f, y, u, min s.a wid⟩]), ⟨by dsimp only; omega, by simp; omega, h3⟩, by dsimp only; omega, ?_⟩; dsimp only; rw [← e3]; clear h3 e3; (apply Ghost.mk [(0, 0), (1, 1), (2, 323)] []; (case hdead => rfl); (case hinj => rfl); (case hV => (simp only [go_sem, *]) <;> (repeat' (first | refine And.intro ?_ ?_ | exact View.int (by first | rfl | omega | (simp; done) | (rw [wrap_i64] <;> (try simp only [Int.natCast_add]) <;> omega) | (simp [*]; done)) | exact .bp rfl (by decide) | exact .own rfl (by decide)))); (case hB => (simp only [go_sem, *]) <;> (repeat' (first | refine And.intro ?_ ?_ | exact ⟨_, rfl, BView.boxF rfl⟩ | exact ⟨_, rfl, .rowE (by first | rfl | omega | (simp; done) | (rw [wrap_i64] <;> (try simp only [Int.natCast_add]) <;> omega) | (simp [*]; done))⟩)))))
        · have hlt' : ¬ (i : Int) < m.length := by omega
          have hd : m.drop i = [] := List.drop_eq_nil_of_le (by omega)
          rw [hd, colR, List.append_nil] at h3
          rw [← h3]
          clear h3 hd hlt
          repeat' (first
 | (apply Awp.sreg; (case hn => (simp only [List.length_cons, List.length_nil, Nat.reduceAdd] <;> rfl)))
 | (refine st_nil ?_)
 | (apply st_a; (case hc => rfl); (case he => (simp only [go_sem, *] <;> rfl)); (case hu => (simp only [updL_nil, updL_cons] <;> rfl)); (case hp => first | trivial))
 | (refine Awp.ret ?_; try simp only [go_sem, *])
 | (refine Awp.exit ?_; try simp only [go_sem, *])
 | (apply Awp.cond; (case hc => (simp only [go_sem, *] <;> rfl)); all_goals (intro hg; (try simp only [Bool.not_true, Bool.not_false, reduceCtorEq] at hg)))
 | refine Awp.seq ?_)
          all_goals repeat' (first | exact Lower.ownE (by simp only [go_sem, *] <;> rfl) (by first | rfl | (simp only [true_and, Bool.true_and, Bool.false_and, Bool.and_true, Bool.and_false, Bool.true_or, Bool.false_or, reduceIte, Bool.false_eq_true, *]; done) | (simp only [true_and, reduceIte, Bool.false_eq_true, *] <;> rfl) | (simp [true_and]; done) | (simp_all [true_and]; done) | omega)))
end Go.Proofs
end
section
set_option linter.unusedVariables false
set_option linter.unusedSimpArgs false
namespace Go.Proofs
open Go Go.Ab
set_option maxHeartbeats 8000000
set_option maxRecDepth 100000
attribute [local irreducible] Awp aops aopsL Go.Ab.Pure PureOwn
def freesE (len wid : Int) (l : List Rc) (g : Int) : List Rc := if rightB len wid l g = true then maxL len wid l g else []
theorem filt_step {α : Type} (p : α → Bool) (l : List α) (d : α) (i : Nat) (h : i < l.length) : (l.take (i + 1)).filter p = (l.take i).filter p ++ if p (l.getD i d) = true then [l.getD i d] else [] := by
  rw [take_snoc l d i h, List.filter_append]
  congr 1
  cases hp : p (l.getD i d)
  · rw [List.filter_cons_of_neg (by rw [hp]; decide)]; rfl
  · rw [List.filter_cons_of_pos hp]; rfl
theorem good_tk {l : List Rc} {g : Int} (hT : GoodT l g) : ∀ t ∈ tkE g l, -40000 ≤ t.b ∧ t.b ≤ 40000 := by
  intro t ht
  obtain ⟨q, hq, rfl⟩ := tk_mem ht
  obtain ⟨i, hi, rfl⟩ := in_getD l zeroRc q hq
  have h1 := bad_no (hT.ok i hi)
  have h2 := hT.g
  unfold enl
  simp only []
  omega
theorem frees_ok (len wid : Int) (l : List Rc) (g : Int) : Pure Tryz.prog 11 [.v (.int .i64 len), .v (.int .i64 wid), .sl (rcs l), .v (.int .i64 g)] (.sl (rcs (freesE len wid l g))) := by
  have k1 := right_ok len wid l g
  unfold freesE
  cases hR : rightB len wid l g
  case false =>
    rw [hR] at k1
    rw [if_neg (by decide)]
    refine fn_pure Tryz.F11 (Nat.le_of_ble_eq_true rfl) ?_; unfold Tryz.ac11
    repeat' (first
 | (apply Awp.sreg; (case hn => (simp only [List.length_cons, List.length_nil, Nat.reduceAdd] <;> rfl)))
 | (refine st_nil ?_)
 | (apply st_a; (case hc => rfl); (case he => (simp only [go_sem, *] <;> rfl)); (case hu => (simp only [updL_nil, updL_cons] <;> rfl)); (case hp => first | trivial))
 | (apply st_c; (case hc => (simp only [go_sem, *] <;> rfl)); (case hl => (simp only [go_sem, *] <;> rfl)); (case hn => (simp only [go_sem, *] <;> rfl)); (case hp => first | exact k1 | (have hXz := k1; simp only [go_sem, *] at hXz; exact hXz)))
 | (refine Awp.ret ?_; try simp only [go_sem, *])
 | (apply Awp.cond; (case hc => (simp only [go_sem, *] <;> rfl)); all_goals (intro hg; (try simp only [Bool.not_true, Bool.not_false, reduceCtorEq] at hg)))
 | refine Awp.seq ?_)
    all_goals repeat' (first | exact Lower.nilE (by first | rfl | (simp only [true_and, Bool.true_and, Bool.false_and, Bool.and_true, Bool.and_false, Bool.true_or, Bool.false_or, reduceIte, Bool.false_eq_true, *]; done) | (simp only [true_and, reduceIte, Bool.false_eq_true, *] <;> rfl) | (simp [true_and]; done) | (simp_all [true_and]; done) | omega))
  rw [hR] at k1
  rw [if_pos rfl]
  obtain ⟨hT, hlen, hwid⟩ := good_of hR
  have k2 := newPlate_ok len wid l g hT
  have htl := Nat.le_trans (tkE_lenQ g l) hT.few
  have k3 := sides_ok len wid (tkE g l) htl
  obtain ⟨hS, hSl⟩ := sides_spec (tkE g l) (show 0 < len by omega)
  have hso := tkE_solid g l
  have kc := fun f u => col_ok len wid f u (tkE g l) htl hwid (good_tk hT) hso
  have kf := fun r => free_ok len wid (tkE g l) r (by omega)
  have hcm := fun f u r => (col_mem (wid := wid) (f := f) (u := u) hso r).1
  have hol := own1_len (fun f u => colE wid f u (tkE g l)) (wideB len (tkE g l)) (sidesE len (tkE g l)) (m := 33) (fun f u => Nat.le_trans (col_len wid f u (tkE g l)) (by omega))
  have hol2 := own2_len (fun f u => colE wid f u (tkE g l)) (wideB len (tkE g l)) (sidesE len (tkE g l)) (m := 33) (fun f u => Nat.le_trans (col_len wid f u (tkE g l)) (by omega))
  have hcl := fun f u => col_len wid f u (tkE g l)
  have hbox : ∀ x ∈ ownE len wid l g (sidesE len (tkE g l)), Small x := by
    intro x hx
    have hx := max_free ((wide_max (by omega) hS x).1 hx)
    obtain ⟨hp, _⟩ := (free_iff _ _ _ _ _).1 hx
    have := hp.ac; have := hp.bd; have := hp.a0; have := hp.b0; have := hp.cl; have := hp.dw
    exact ⟨by omega, by omega, by omega, by omega⟩
  have hown : (ownE len wid l g (sidesE len (tkE g l))).length < 1000000 := by
    have h1 := hol (sidesE len (tkE g l)).length
    have h2 : (sidesE len (tkE g l)).length ≤ 66 := by omega
    unfold ownE
    generalize (sidesE len (tkE g l)).length = n at *
    have h3 : n * 33 ≤ 66 * 33 := Nat.mul_le_mul_right 33 h2
    have h4 : n * (n * 33) ≤ 66 * (66 * 33) := Nat.mul_le_mul h2 h3
    omega
  obtain ⟨m, hm, hma, cs⟩ := sort26_cc _ hbox hown
  have cs1 := fun b nm => by have h := cs b nm; rw [← rcs_len] at h; exact callC_own h
  rw [← sorted_max (by omega) (by omega) hS hm hma]
  have hSin : ∀ i, i < (sidesE len (tkE g l)).length → 0 ≤ (sidesE len (tkE g l)).getD i 0 ∧ (sidesE len (tkE g l)).getD i 0 ≤ 32768 := fun i hi => by
    have := side_in hS (by omega) (getD_in _ 0 i hi)
    omega
  have hS66 : (sidesE len (tkE g l)).length ≤ 66 := by omega
  unfold ownE at cs1
  clear hbox hown hm hma cs hS hT hR hso hlen hwid
  have hQ : ∀ r, wideB len (tkE g l) r = (!freeC len (tkE g l) ⟨r.a - 1, r.b, r.c, r.d⟩ && !freeC len (tkE g l) ⟨r.a, r.b, r.c + 1, r.d⟩) := fun r => rfl
  obtain ⟨C, hC⟩ : ∃ C : Int → Int → List Rc, C = fun f u => colE wid f u (tkE g l) := ⟨_, rfl⟩
  have hC' : ∀ f u, colE wid f u (tkE g l) = C f u := fun f u => by rw [hC]
  rw [← hC] at cs1 hol hol2
  simp only [hC'] at kc hcm hcl
  clear hC hC'
  generalize wideB len (tkE g l) = Q at *
  generalize sidesE len (tkE g l) = S at *
  generalize tkE g l = tk at *
  generalize freeC len tk = F at *
  skip
  refine fn_pure Tryz.F11 (Nat.le_of_ble_eq_true rfl) ?_; unfold Tryz.ac11
  repeat' (first
 | (apply Awp.sreg; (case hn => (simp only [List.length_cons, List.length_nil, Nat.reduceAdd] <;> rfl)))
 | (refine st_nil ?_)
 | (apply st_a; (case hc => rfl); (case he => (simp only [go_sem, *] <;> rfl)); (case hu => (simp only [updL_nil, updL_cons] <;> rfl)); (case hp => first | trivial))
 | (apply st_c; (case hc => (simp only [go_sem, *] <;> rfl)); (case hl => (simp only [go_sem, *] <;> rfl)); (case hn => (simp only [go_sem, *] <;> rfl)); (case hp => first | exact k1 | (have hXz := k1; simp only [go_sem, *] at hXz; exact hXz)))
 | (apply st_c; (case hc => (simp only [go_sem, *] <;> rfl)); (case hl => (simp only [go_sem, *] <;> rfl)); (case hn => (simp only [go_sem, *] <;> rfl)); (case hp => first | exact k2 | (have hXz := k2; simp only [go_sem, *] at hXz; exact hXz)))
 | (apply st_c; (case hc => (simp only [go_sem, *] <;> rfl)); (case hl => (simp only [go_sem, *] <;> rfl)); (case hn => (simp only [go_sem, *] <;> rfl)); (case hp => first | exact k3 | (have hXz := k3; simp only [go_sem, *] at hXz; exact hXz)))
 | (refine Awp.skip ?_; try simp only [go_sem, *])
 | refine Awp.block ?_
 | (apply Awp.cond; (case hc => (simp only [go_sem, *] <;> rfl)); all_goals (intro hg; (try simp only [Bool.not_true, Bool.not_false, reduceCtorEq] at hg)))
 | refine Awp.seq ?_)
  clear k1 k2 k3
  have hcl : ∀ f u, (C f u).length ≤ 33 := fun f u => Nat.le_trans (hcl f u) (by omega)
  refine Awp.loop (fun i : Nat => i ≤ S.length) 100 (fun i => mkS [(8, .own 1), (9, .bp 0 0), (10, .sl (ints S)), (32, .sl (ints S)), (33, .v (.int .i64 S.length)), (34, .v (.int .i64 i))] [(0, .box [.v (.int .i64 len), .v (.int .i64 wid), .sl (rcs tk)]), (1, .row (rcs (own1 C Q S i)) 4 54)]) (fun i => S.length - i) 0 (by omega) ?_ ?_
  · refine Ghost.trans (Ghost.name 8 4 54 rfl (by decide)) ?_
    have e1 : rcs (own1 C Q S 0) = [] := rfl
    rw [e1]
    clear cs1 kc kf hcm hol hol2 hcl hSin hQ
    (apply Ghost.mk [(0, 12), (1, 20)] []; (case hdead => rfl); (case hinj => rfl); (case hV => (simp only [go_sem, *]) <;> (repeat' (first | refine And.intro ?_ ?_ | exact View.int (by first | rfl | omega | (simp; done) | (rw [wrap_i64] <;> (try simp only [Int.natCast_add]) <;> omega) | (simp [*]; done)) | exact .bp rfl (by decide) | exact .own rfl (by decide)))); (case hB => (simp only [go_sem, *]) <;> (repeat' (first | refine And.intro ?_ ?_ | exact ⟨_, rfl, BView.boxF rfl⟩ | exact ⟨_, rfl, .rowE (by first | rfl | omega | (simp; done) | (rw [wrap_i64] <;> (try simp only [Int.natCast_add]) <;> omega) | (simp [*]; done))⟩))))
  · intro i hi
    by_cases hlt : i < S.length
    · have hlt' : (i : Int) < S.length := by omega
      have hat := ints_at S i hlt
      have ww : IntKind.i64.wrap ((i : Int) + 1) = ((i + 1 : Nat) : Int) := by rw [wrap_i64 (by omega) (by omega)]; omega
      have hfi := hSin i hlt
      have ho1 : (own1 C Q S i).length ≤ 66 * (66 * 33) := Nat.le_trans (hol i) (Nat.mul_le_mul (by omega) (Nat.mul_le_mul_right 33 hS66))
      have hst : own1 C Q S (i + 1) = own1 C Q S i ++ own2 C Q S i (S.length - (i + 1)) := rfl
      have hone : ∀ x ∈ ints S, x.length = 1 := by
        intro y hy; obtain ⟨s, _, rfl⟩ := List.mem_map.1 hy; rfl
      clear cs1 hol
      generalize own1 C Q S i = O at *
      repeat' (first
 | (apply Awp.sreg; (case hn => (simp only [List.length_cons, List.length_nil, Nat.reduceAdd] <;> rfl)))
 | (refine st_nil ?_)
 | (apply st_a; (case hc => rfl); (case he => (simp only [go_sem, *] <;> rfl)); (case hu => (simp only [updL_nil, updL_cons] <;> rfl)); (case hp => first | trivial | omega | ((repeat' (refine And.intro ?_ ?_)) <;> first | trivial | assumption | omega | (simp; done) | (simp; omega) | (simp [*]; done))))
 | (refine Awp.skip ?_; try simp only [go_sem, *])
 | refine Awp.block ?_
 | (apply Awp.cond; (case hc => (simp only [go_sem, *] <;> rfl)); all_goals (intro hg; (try simp only [Bool.not_true, Bool.not_false, reduceCtorEq] at hg)))
 | refine Awp.seq ?_)
      refine Awp.loop (fun k : Nat => k ≤ S.length - (i + 1)) 200 (fun k => mkS [(8, .own 1), (9, .bp 0 0), (10, .sl (ints S)), (12, .v (.int .i64 (S.getD i 0))), (32, .sl (ints S)), (33, .v (.int .i64 S.length)), (34, .v (.int .i64 i)), (42, .sl (ints (S.drop (i + 1)))), (43, .v (.int .i64 ((S.length - (i + 1) : Nat) : Int))), (44, .v (.int .i64 k))] [(0, .box [.v (.int .i64 len), .v (.int .i64 wid), .sl (rcs tk)]), (1, .row (rcs (O ++ own2 C Q S i k)) 4 54)]) (fun k => S.length - (i + 1) - k) 0 (by omega) ?_ ?_
      · have e1 : O ++ own2 C Q S i 0 = O := by simp [own2]
        rw [e1]
        have hdr : List.drop (i + 1) (List.take S.length (ints S)) = ints (S.drop (i + 1)) := by rw [List.take_of_length_le (by rw [ints_len]; exact Nat.le_refl _)]; simp [ints]
        clear kc kf hcm hol2 hcl hSin hQ hst
        (apply Ghost.mk [(0, 0), (1, 1)] []; (case hdead => rfl); (case hinj => rfl); (case hV => (simp only [go_sem, *]) <;> (repeat' (first | refine And.intro ?_ ?_ | exact View.int (by first | rfl | omega | (simp; done) | (rw [wrap_i64] <;> (try simp only [Int.natCast_add]) <;> omega) | (simp [*]; done)) | exact .bp rfl (by decide) | exact .own rfl (by decide)))); (case hB => (simp only [go_sem, *]) <;> (repeat' (first | refine And.intro ?_ ?_ | exact ⟨_, rfl, BView.boxF rfl⟩ | exact ⟨_, rfl, .rowE (by first | rfl | omega | (simp; done) | (rw [wrap_i64] <;> (try simp only [Int.natCast_add]) <;> omega) | (simp [*]; done))⟩))))
      · intro k hk
        by_cases hlk : k < S.length - (i + 1)
        · have hlk' : (k : Int) < ((S.length - (i + 1) : Nat) : Int) := by omega
          have hatk : (ints (S.drop (i + 1))).getD k [] = [.v (.int .i64 (S.getD (i + 1 + k) 0))] := by
            rw [ints_at _ k (by rw [List.length_drop]; omega)]
            simp [List.getD_eq_getElem?_getD]
          have hfk := hSin (i + 1 + k) (by omega)
          have hcj := kc (S.getD i 0) (S.getD (i + 1 + k) 0)
          have hcr := hcm (S.getD i 0) (S.getD (i + 1 + k) 0)
          have hcn := hcl (S.getD i 0) (S.getD (i + 1 + k) 0)
          have hst2 : O ++ own2 C Q S i (k + 1) = O ++ own2 C Q S i k ++ (C (S.getD i 0) (S.getD (i + 1 + k) 0)).filter Q := by rw [own2, List.append_assoc]
          have ho2 : (own2 C Q S i k).length ≤ 66 * 33 := Nat.le_trans (hol2 i k) (Nat.mul_le_mul_right 33 (by omega))
          have ho3 : (O ++ own2 C Q S i k).length ≤ 66 * (66 * 33) + 66 * 33 := by rw [List.length_append]; omega
          clear kc hcm hcl hol2 hst ho1 ho2 hSin
          generalize O ++ own2 C Q S i k = O2 at *
          generalize C (S.getD i 0) (S.getD (i + 1 + k) 0) = D at *
          generalize S.getD i 0 = fr at *
          generalize S.getD (i + 1 + k) 0 = un at *
          repeat' (first
 | (apply Awp.sreg; (case hn => (simp only [List.length_cons, List.length_nil, Nat.reduceAdd] <;> rfl)))
 | (refine st_nil ?_)
 | (apply st_a; (case hc => rfl); (case he => (simp only [go_sem, *] <;> rfl)); (case hu => (simp only [updL_nil, updL_cons] <;> rfl)); (case hp => first | trivial | (simp; omega)))
 | (apply st_c; (case hc => (simp only [go_sem, *] <;> rfl)); (case hl => (simp only [go_sem, *] <;> rfl)); (case hn => (simp only [go_sem, *] <;> rfl)); (case hp => first | exact hcj | (have hXz := hcj; simp only [go_sem, *] at hXz; exact hXz)))
 | (refine Awp.skip ?_; try simp only [go_sem, *])
 | refine Awp.block ?_
 | (apply Awp.cond; (case hc => (simp only [go_sem, *] <;> rfl)); all_goals (intro hg; (try simp only [Bool.not_true, Bool.not_false, reduceCtorEq] at hg)))
 | refine Awp.seq ?_)
          clear hcj
          refine Awp.loop (fun q : Nat => q ≤ D.length) 300 (fun q => mkS [(8, .own 1), (9, .bp 0 0), (10, .sl (ints S)), (12, .v (.int .i64 fr)), (32, .sl (ints S)), (33, .v (.int .i64 S.length)), (34, .v (.int .i64 i)), (42, .sl (ints (S.drop (i + 1)))), (43, .v (.int .i64 ((S.length - (i + 1) : Nat) : Int))), (44, .v (.int .i64 k)), (51, .sl (rcs D)), (52, .v (.int .i64 D.length)), (53, .v (.int .i64 q))] [(0, .box [.v (.int .i64 len), .v (.int .i64 wid), .sl (rcs tk)]), (1, .row (rcs (O2 ++ (D.take q).filter Q)) 4 54)]) (fun q => D.length - q) 0 (by omega) ?_ ?_
          · have e1 : O2 ++ (D.take 0).filter Q = O2 := by simp
            rw [e1]
            clear kf hcr hQ hst2
            (apply Ghost.mk [(0, 0), (1, 1)] []; (case hdead => rfl); (case hinj => rfl); (case hV => (simp only [go_sem, *]) <;> (repeat' (first | refine And.intro ?_ ?_ | exact View.int (by first | rfl | omega | (simp; done) | (rw [wrap_i64] <;> (try simp only [Int.natCast_add]) <;> omega) | (simp [*]; done)) | exact .bp rfl (by decide) | exact .own rfl (by decide)))); (case hB => (simp only [go_sem, *]) <;> (repeat' (first | refine And.intro ?_ ?_ | exact ⟨_, rfl, BView.boxF rfl⟩ | exact ⟨_, rfl, .rowE (by first | rfl | omega | (simp; done) | (rw [wrap_i64] <;> (try simp only [Int.natCast_add]) <;> omega) | (simp [*]; done))⟩))))
          · intro q hq
            by_cases hlq : q < D.length
            · have hlq' : (q : Int) < D.length := by omega
              have hatq := rcs_at D q hlq
              have hz : ((D.getD q zeroRc).cells).length = 4 := rfl
              have hrr := hcr (D.getD q zeroRc) (getD_in D zeroRc q hlq)
              have hac := hrr.1
              have hfs : O2 ++ (D.take (q + 1)).filter Q = (O2 ++ (D.take q).filter Q) ++ if Q (D.getD q zeroRc) = true then [D.getD q zeroRc] else [] := by rw [filt_step Q D zeroRc q hlq, List.append_assoc]
              have hfl : (O2 ++ (D.take q).filter Q).length ≤ 66 * (66 * 33) + 66 * 33 + 33 := by
                have := List.length_filter_le Q (D.take q)
                rw [List.length_take] at this
                rw [List.length_append]
                omega
              have hQr := hQ (D.getD q zeroRc)
              clear hcr hQ hrr hst2
              generalize D.getD q zeroRc = r at *
              have f1 := kf ⟨r.a - 1, r.b, r.c, r.d⟩
              have f2 := kf ⟨r.a, r.b, r.c + 1, r.d⟩
              have w1 : IntKind.i64.wrap (r.a - 1) = r.a - 1 := wrap_i64 (by omega) (by omega)
              have w2 : IntKind.i64.wrap (r.c + 1) = r.c + 1 := wrap_i64 (by omega) (by omega)
              have e3 := rcs_snocC (O2 ++ (D.take q).filter Q) r
              clear kf hac
              cases h1 : F ⟨r.a - 1, r.b, r.c, r.d⟩
              · cases h2 : F ⟨r.a, r.b, r.c + 1, r.d⟩
                · rw [h1, h2] at hQr
                  rw [hQr] at hfs
                  simp only [Bool.not_false, Bool.and_self, if_true] at hfs
                  rw [h1] at f1
                  rw [h2] at f2
                  clear hQr h1 h2
                  repeat' (first
 | (apply Awp.sreg; (case hn => (simp only [List.length_cons, List.length_nil, Nat.reduceAdd] <;> rfl)))
 | (apply Awp.sdraw; (case hn => (simp only [List.length_cons, List.length_nil, Nat.reduceAdd] <;> rfl)))
 | (refine st_nil ?_)
 | (apply st_a; (case hc => rfl); (case he => (simp only [go_sem, *] <;> rfl)); (case hu => (simp only [updL_nil, updL_cons] <;> rfl)); (case hp => first | trivial | omega | (simp; done) | ((repeat' (refine And.intro ?_ ?_)) <;> first | trivial | assumption | omega | (simp; done) | (simp; omega) | (simp [*]; done))))
 | (apply st_m; (case hc => rfl); (case hg => (simp only [go_sem, *] <;> rfl)); (case he => (intro hQz; (try simp only [wantB_t, wantB_f, Bool.and_eq_true, Bool.not_eq_true', Bool.not_true, Bool.not_false, and_true, true_and] at hQz); simp only [go_sem, *] <;> rfl)); (case hp => (intro hQz; (try simp only [wantB_t, wantB_f, Bool.and_eq_true, Bool.not_eq_true', Bool.or_eq_false_iff, decide_eq_true_eq, decide_eq_false_iff_not, beq_iff_eq, beq_eq_false_iff_ne, bne_iff_ne, bne_eq_false_iff_eq, Int.not_lt, Int.not_le, Int.ofNat_lt, Int.ofNat_le] at hQz); first | trivial)))
 | (apply st_c; (case hc => (simp only [go_sem, *] <;> rfl)); (case hl => (simp only [go_sem, *] <;> rfl)); (case hn => (simp only [go_sem, *] <;> rfl)); (case hp => first | exact f1 | (have hXz := f1; simp only [go_sem, *] at hXz; exact hXz)))
 | (apply st_mc; (case hop => rfl); (case hg => (simp only [go_sem, *] <;> rfl)); (case hc => (intro hQz; (try simp only [wantB_t, wantB_f, Bool.and_eq_true, Bool.not_eq_true', Bool.not_true, Bool.not_false, and_true, true_and] at hQz); simp only [go_sem, *] <;> rfl)); (case hl => (intro hQz; (try simp only [wantB_t, wantB_f, Bool.and_eq_true, Bool.not_eq_true', Bool.not_true, Bool.not_false, and_true, true_and] at hQz); simp only [go_sem, *] <;> rfl)); (case hn => (intro hQz; (try simp only [wantB_t, wantB_f, Bool.and_eq_true, Bool.not_eq_true', Bool.not_true, Bool.not_false, and_true, true_and] at hQz); simp only [go_sem, *] <;> rfl)); (case hp => intro hQz; first | exact f2 | (have hXz := f2; simp only [go_sem, *] at hXz; exact hXz)))
 | (apply Awp.reg; (case hn => (simp only [List.length_cons, List.length_nil, Nat.reduceAdd] <;> rfl)))
 | (refine Awp.skip ?_; try simp only [go_sem, *])
 | refine Awp.block ?_
 | (apply Awp.cond; (case hc => (simp only [go_sem, *] <;> rfl)); all_goals (intro hg; (try simp only [Bool.not_true, Bool.not_false, reduceCtorEq] at hg)))
 | refine Awp.seq ?_
 | (apply sl_a; (case hc => rfl); (case he => (simp only [go_sem, *] <;> rfl)); (case hu => (simp only [updL_nil, updL_cons] <;> rfl)); (case hl => (simp only [List.map_cons, List.map_nil] <;> rfl)); (case hp => first | trivial))
 | (refine sl_nil (And.intro (by first | exact drawOk_of (by decide +kernel) | (simp only [List.map_cons, List.map_nil]; exact drawOk_of (by decide +kernel)) | decide) ?_)))
                  all_goals (refine ⟨q + 1, by omega, by omega, ?_⟩; rw [hfs, ← e3]; clear hfs e3 f1 f2; (apply Ghost.mk [(0, 0), (1, 338)] []; (case hdead => rfl); (case hinj => rfl); (case hV => (simp only [go_sem, *]) <;> (repeat' (first | refine And.intro ?_ ?_ | exact View.int (by first | rfl | omega | (simp; done) | (rw [wrap_i64] <;> (try simp only [Int.natCast_add]) <;> omega) | (simp [*]; done)) | exact .bp rfl (by decide) | exact .own rfl (by decide)))); (case hB => (simp only [go_sem, *]) <;> (repeat' (first | refine And.intro ?_ ?_ | exact ⟨_, rfl, BView.boxF rfl⟩ | exact ⟨_, rfl, .rowE (by first | rfl | omega | (simp; done) | (rw [wrap_i64] <;> (try simp only [Int.natCast_add]) <;> omega) | (simp [*]; done))⟩)))))
                · rw [h1, h2] at hQr
                  rw [hQr] at hfs
                  simp only [Bool.not_true, Bool.not_false, Bool.and_false, if_false, Bool.false_eq_true, List.append_nil] at hfs
                  rw [h1] at f1
                  rw [h2] at f2
                  clear hQr h1 h2 e3
                  repeat' (first
 | (apply Awp.sreg; (case hn => (simp only [List.length_cons, List.length_nil, Nat.reduceAdd] <;> rfl)))
 | (apply Awp.sdraw; (case hn => (simp only [List.length_cons, List.length_nil, Nat.reduceAdd] <;> rfl)))
 | (refine st_nil ?_)
 | (apply st_a; (case hc => rfl); (case he => (simp only [go_sem, *] <;> rfl)); (case hu => (simp only [updL_nil, updL_cons] <;> rfl)); (case hp => first | trivial | omega))
 | (apply st_m; (case hc => rfl); (case hg => (simp only [go_sem, *] <;> rfl)); (case he => (intro hQz; (try simp only [wantB_t, wantB_f, Bool.and_eq_true, Bool.not_eq_true', Bool.not_true, Bool.not_false, and_true, true_and] at hQz); simp only [go_sem, *] <;> rfl)); (case hp => (intro hQz; (try simp only [wantB_t, wantB_f, Bool.and_eq_true, Bool.not_eq_true', Bool.or_eq_false_iff, decide_eq_true_eq, decide_eq_false_iff_not, beq_iff_eq, beq_eq_false_iff_ne, bne_iff_ne, bne_eq_false_iff_eq, Int.not_lt, Int.not_le, Int.ofNat_lt, Int.ofNat_le] at hQz); first | trivial)))
 | (apply st_c; (case hc => (simp only [go_sem, *] <;> rfl)); (case hl => (simp only [go_sem, *] <;> rfl)); (case hn => (simp only [go_sem, *] <;> rfl)); (case hp => first | exact f1 | (have hXz := f1; simp only [go_sem, *] at hXz; exact hXz)))
 | (apply st_mc; (case hop => rfl); (case hg => (simp only [go_sem, *] <;> rfl)); (case hc => (intro hQz; (try simp only [wantB_t, wantB_f, Bool.and_eq_true, Bool.not_eq_true', Bool.not_true, Bool.not_false, and_true, true_and] at hQz); simp only [go_sem, *] <;> rfl)); (case hl => (intro hQz; (try simp only [wantB_t, wantB_f, Bool.and_eq_true, Bool.not_eq_true', Bool.not_true, Bool.not_false, and_true, true_and] at hQz); simp only [go_sem, *] <;> rfl)); (case hn => (intro hQz; (try simp only [wantB_t, wantB_f, Bool.and_eq_true, Bool.not_eq_true', Bool.not_true, Bool.not_false, and_true, true_and] at hQz); simp only [go_sem, *] <;> rfl)); (case hp => intro hQz; first | exact f2 | (have hXz := f2; simp only [go_sem, *] at hXz; exact hXz)))
 | (apply Awp.reg; (case hn => (simp only [List.length_cons, List.length_nil, Nat.reduceAdd] <;> rfl)))
 | (refine Awp.skip ?_; try simp only [go_sem, *])
 | refine Awp.block ?_
 | (apply Awp.cond; (case hc => (simp only [go_sem, *] <;> rfl)); all_goals (intro hg; (try simp only [Bool.not_true, Bool.not_false, reduceCtorEq] at hg)))
 | refine Awp.seq ?_
 | (apply sl_a; (case hc => rfl); (case he => (simp only [go_sem, *] <;> rfl)); (case hu => (simp only [updL_nil, updL_cons] <;> rfl)); (case hl => (simp only [List.map_cons, List.map_nil] <;> rfl)); (case hp => first | trivial))
 | (refine sl_nil (And.intro (by first | exact drawOk_of (by decide +kernel) | (simp only [List.map_cons, List.map_nil]; exact drawOk_of (by decide +kernel)) | decide) ?_)))
                  all_goals (refine ⟨q + 1, by omega, by omega, ?_⟩; rw [hfs]; clear hfs f1 f2; (apply Ghost.mk [(0, 0), (1, 1)] []; (case hdead => rfl); (case hinj => rfl); (case hV => (simp only [go_sem, *]) <;> (repeat' (first | refine And.intro ?_ ?_ | exact View.int (by first | rfl | omega | (simp; done) | (rw [wrap_i64] <;> (try simp only [Int.natCast_add]) <;> omega) | (simp [*]; done)) | exact .bp rfl (by decide) | exact .own rfl (by decide)))); (case hB => (simp only [go_sem, *]) <;> (repeat' (first | refine And.intro ?_ ?_ | exact ⟨_, rfl, BView.boxF rfl⟩ | exact ⟨_, rfl, .rowE (by first | rfl | omega | (simp; done) | (rw [wrap_i64] <;> (try simp only [Int.natCast_add]) <;> omega) | (simp [*]; done))⟩)))))
              · rw [h1] at hQr
                rw [hQr] at hfs
                simp only [Bool.not_true, Bool.false_and, if_false, Bool.false_eq_true, List.append_nil] at hfs
                rw [h1] at f1
                clear hQr h1 e3 f2
                repeat' (first
 | (apply Awp.sreg; (case hn => (simp only [List.length_cons, List.length_nil, Nat.reduceAdd] <;> rfl)))
 | (apply Awp.sdraw; (case hn => (simp only [List.length_cons, List.length_nil, Nat.reduceAdd] <;> rfl)))
 | (refine st_nil ?_)
 | (apply st_a; (case hc => rfl); (case he => (simp only [go_sem, *] <;> rfl)); (case hu => (simp only [updL_nil, updL_cons] <;> rfl)); (case hp => first | trivial | omega))
 | (apply st_m; (case hc => rfl); (case hg => (simp only [go_sem, *] <;> rfl)); (case he => (intro hQz; (try simp only [wantB_t, wantB_f, Bool.and_eq_true, Bool.not_eq_true', Bool.not_true, Bool.not_false, and_true, true_and] at hQz); simp only [go_sem, *] <;> rfl)); (case hp => (intro hQz; (try simp only [wantB_t, wantB_f, Bool.and_eq_true, Bool.not_eq_true', Bool.or_eq_false_iff, decide_eq_true_eq, decide_eq_false_iff_not, beq_iff_eq, beq_eq_false_iff_ne, bne_iff_ne, bne_eq_false_iff_eq, Int.not_lt, Int.not_le, Int.ofNat_lt, Int.ofNat_le] at hQz); first | trivial)))
 | (apply st_c; (case hc => (simp only [go_sem, *] <;> rfl)); (case hl => (simp only [go_sem, *] <;> rfl)); (case hn => (simp only [go_sem, *] <;> rfl)); (case hp => first | exact f1 | (have hXz := f1; simp only [go_sem, *] at hXz; exact hXz)))
 | (apply st_g; (case hv => (simp only [go_sem, *] <;> rfl)); all_goals (intro hg; (try simp only [Bool.not_true, Bool.not_false, reduceCtorEq] at hg)))
 | (apply Awp.reg; (case hn => (simp only [List.length_cons, List.length_nil, Nat.reduceAdd] <;> rfl)))
 | (refine Awp.skip ?_; try simp only [go_sem, *])
 | refine Awp.block ?_
 | (apply Awp.cond; (case hc => (simp only [go_sem, *] <;> rfl)); all_goals (intro hg; (try simp only [Bool.not_true, Bool.not_false, reduceCtorEq] at hg)))
 | refine Awp.seq ?_
 | (apply sl_a; (case hc => rfl); (case he => (simp only [go_sem, *] <;> rfl)); (case hu => (simp only [updL_nil, updL_cons] <;> rfl)); (case hl => (simp only [List.map_cons, List.map_nil] <;> rfl)); (case hp => first | trivial))
 | (refine sl_nil (And.intro (by first | exact drawOk_of (by decide +kernel) | (simp only [List.map_cons, List.map_nil]; exact drawOk_of (by decide +kernel)) | decide) ?_)))
                all_goals (refine ⟨q + 1, by omega, by omega, ?_⟩; rw [hfs]; clear hfs f1; (apply Ghost.mk [(0, 0), (1, 1)] []; (case hdead => rfl); (case hinj => rfl); (case hV => (simp only [go_sem, *]) <;> (repeat' (first | refine And.intro ?_ ?_ | exact View.int (by first | rfl | omega | (simp; done) | (rw [wrap_i64] <;> (try simp only [Int.natCast_add]) <;> omega) | (simp [*]; done)) | exact .bp rfl (by decide) | exact .own rfl (by decide)))); (case hB => (simp only [go_sem, *]) <;> (repeat' (first | refine And.intro ?_ ?_ | exact ⟨_, rfl, BView.boxF rfl⟩ | exact ⟨_, rfl, .rowE (by first | rfl | omega | (simp; done) | (rw [wrap_i64] <;> (try simp only [Int.natCast_add]) <;> omega) | (simp [*]; done))⟩)))))
            · have hlq' : ¬ (q : Int) < D.length := by omega
              have e1 : D.take q = D := List.take_of_length_le (by omega)
              rw [e1, ← hst2]
              clear e1 hst2 kf hcr hQ
              repeat' (first
 | (apply Awp.sreg; (case hn => (simp only [List.length_cons, List.length_nil, Nat.reduceAdd] <;> rfl)))
 | (refine st_nil ?_)
 | (apply st_a; (case hc => rfl); (case he => (simp only [go_sem, *] <;> rfl)); (case hu => (simp only [updL_nil, updL_cons] <;> rfl)); (case hp => first | trivial))
 | (apply Awp.reg; (case hn => (simp only [List.length_cons, List.length_nil, Nat.reduceAdd] <;> rfl)))
 | (refine Awp.exit ?_; try simp only [go_sem, *])
 | (apply Awp.cond; (case hc => (simp only [go_sem, *] <;> rfl)); all_goals (intro hg; (try simp only [Bool.not_true, Bool.not_false, reduceCtorEq] at hg)))
 | refine Awp.seq ?_)
              all_goals (refine ⟨k + 1, by omega, by omega, ?_⟩; (apply Ghost.mk [(0, 0), (1, 1)] []; (case hdead => rfl); (case hinj => rfl); (case hV => (simp only [go_sem, *]) <;> (repeat' (first | refine And.intro ?_ ?_ | exact View.int (by first | rfl | omega | (simp; done) | (rw [wrap_i64] <;> (try simp only [Int.natCast_add]) <;> omega) | (simp [*]; done)) | exact .bp rfl (by decide) | exact .own rfl (by decide)))); (case hB => (simp only [go_sem, *]) <;> (repeat' (first | refine And.intro ?_ ?_ | exact ⟨_, rfl, BView.boxF rfl⟩ | exact ⟨_, rfl, .rowE (by first | rfl | omega | (simp; done) | (rw [wrap_i64] <;> (try simp only [Int.natCast_add]) <;> omega) | (simp [*]; done))⟩)))))
        · have hlk' : ¬ (k : Int) < ((S.length - (i + 1) : Nat) : Int) := by omega
          have e1 : k = S.length - (i + 1) := by omega
          rw [e1] at hlk' ⊢
          rw [← hst]
          clear e1 hst kc kf hcm hol2 hcl hSin hQ hlk hk
          repeat' (first
 | (apply Awp.sreg; (case hn => (simp only [List.length_cons, List.length_nil, Nat.reduceAdd] <;> rfl)))
 | (refine st_nil ?_)
 | (apply st_a; (case hc => rfl); (case he => (simp only [go_sem, *] <;> rfl)); (case hu => (simp only [updL_nil, updL_cons] <;> rfl)); (case hp => first | trivial))
 | (apply Awp.reg; (case hn => (simp only [List.length_cons, List.length_nil, Nat.reduceAdd] <;> rfl)))
 | (refine Awp.exit ?_; try simp only [go_sem, *])
 | (apply Awp.cond; (case hc => (simp only [go_sem, *] <;> rfl)); all_goals (intro hg; (try simp only [Bool.not_true, Bool.not_false, reduceCtorEq] at hg)))
 | refine Awp.seq ?_)
          all_goals (refine ⟨i + 1, by omega, by omega, ?_⟩; (apply Ghost.mk [(0, 0), (1, 1)] []; (case hdead => rfl); (case hinj => rfl); (case hV => (simp only [go_sem, *]) <;> (repeat' (first | refine And.intro ?_ ?_ | exact .bp rfl (by decide) | exact .own rfl (by decide)))); (case hB => (simp only [go_sem, *]) <;> (repeat' (first | refine And.intro ?_ ?_ | exact ⟨_, rfl, BView.boxF rfl⟩ | exact ⟨_, rfl, .rowE (by first | rfl | omega | (simp; done) | (rw [wrap_i64] <;> (try simp only [Int.natCast_add]) <;> omega) | (simp [*]; done))⟩)))))
    · have hlt' : ¬ (i : Int) < S.length := by omega
      have e1 : i = S.length := by omega
      rw [e1] at hlt' ⊢
      clear e1 hlt hi kc kf hcm hol hol2 hcl hSin hQ
      repeat' (first
 | (apply Awp.sreg; (case hn => (simp only [List.length_cons, List.length_nil, Nat.reduceAdd] <;> rfl)))
 | (refine st_nil ?_)
 | (apply st_a; (case hc => rfl); (case he => (simp only [go_sem, *] <;> rfl)); (case hu => (simp only [updL_nil, updL_cons] <;> rfl)); (case hp => first | trivial))
 | (apply st_cc; (case hc => (simp only [go_sem, *] <;> rfl)); (case hcc => exact (cs1 _ _)); (case hh => (first | (simp only [List.mem_singleton, forall_eq]; first | (simp only [go_sem, *] <;> rfl) | (simp only [go_sem, *]; simp [ints])) | (intro p hp; cases hp; done) | (intro p hp; simp only [List.mem_cons, List.not_mem_nil, or_false] at hp; rcases hp with rfl | rfl | rfl | rfl | rfl | rfl | rfl <;> (simp only [go_sem, *] <;> rfl)) | (intro p hp; simp only [List.mem_cons, List.not_mem_nil, or_false] at hp; rcases hp with rfl | rfl | rfl | rfl <;> (simp only [go_sem, *] <;> rfl)))); (case hu => (first | (simp; done) | decide)); (case hm => (first | decide | (simp; done))); (case hw => (simp only [updL_nil, updL_cons] <;> rfl)))
 | (refine Awp.ret ?_; try simp only [go_sem, *])
 | (refine Awp.exit ?_; try simp only [go_sem, *])
 | (apply Awp.cond; (case hc => (simp only [go_sem, *] <;> rfl)); all_goals (intro hg; (try simp only [Bool.not_true, Bool.not_false, reduceCtorEq] at hg)))
 | refine Awp.seq ?_)
      all_goals repeat' (first | exact Lower.ownE (by simp only [go_sem, *] <;> rfl) (by first | rfl | (simp only [true_and, Bool.true_and, Bool.false_and, Bool.and_true, Bool.and_false, Bool.true_or, Bool.false_or, reduceIte, Bool.false_eq_true, *]; done) | (simp only [true_and, reduceIte, Bool.false_eq_true, *] <;> rfl) | (simp [true_and]; done) | (simp_all [true_and]; done) | omega))
end Go.Proofs
end
