import Derived.Test.YtjlblefjcapljaaDoorPlanA
import Derived.Test.YtjlblefjcapljaaDoorSums
import Derived.Test.YtjlblefjcapljaaDoorCodeB
section
set_option linter.unusedVariables false
set_option linter.unusedSimpArgs false
namespace Go.Proofs
open Go Go.Ab
set_option linter.unusedSimpArgs false
set_option linter.unusedVariables false
def areaI (nm : ByteArray) (t : Int) (q : Sty) : Int := if areaB q nm t = true then q.len * q.wid else 0
def pt (nm : ByteArray) (t X Y : Int) : Sty := ⟨⟨#[]⟩, nm, X, Y, 0, 0, t, 0⟩
theorem areaI_le {bs : List By} (hb : baysOk bs) {q : Sty} (hg : good bs q = true) (nm : ByteArray) (t : Int) : 0 ≤ areaI nm t q ∧ areaI nm t q ≤ 274877906944 := by
  have g := (good_iff hb).1 hg
  unfold areaI
  split
  · refine ⟨Int.mul_nonneg (by omega) (by omega), ?_⟩
    exact Int.le_trans (Int.mul_le_mul_of_nonneg_right (by omega : q.len ≤ 524288) (by omega)) (by omega)
  · omega
theorem areaE_sum {bs : List By} (hb : baysOk bs) (nm : ByteArray) (t : Int) : ∀ (l : List Sty) (acc : Int), (∀ q ∈ l, good bs q = true) → 0 ≤ acc → acc + 274877906944 * l.length < 9223372036854775808 → l.foldl (areaF nm t) acc = acc + (l.map (areaI nm t)).sum
  | [], acc, _, _, _ => by simp
  | q :: l, acc, hg, h0, h1 => by
    have hq := areaI_le hb (hg q (by simp)) nm t
    have g := (good_iff hb).1 (hg q (by simp))
    simp only [List.length_cons, Int.natCast_add] at h1
    have e : areaF nm t acc q = acc + areaI nm t q := by
      unfold areaF
      unfold areaI at hq ⊢
      split
      · rename_i hp
        rw [if_pos hp] at hq
        rw [wrap_i64 (n := q.len * q.wid) (by omega) (by omega), wrap_i64 (by omega) (by omega)]
      · simp
    rw [List.foldl_cons, e, areaE_sum hb nm t l _ (fun x hx => hg x (by simp [hx])) (by omega) (by omega)]
    simp only [List.map_cons, List.sum_cons]
    omega
theorem area_cells {bs : List By} (hb : baysOk bs) {q : Sty} (hg : good bs q = true) (nm : ByteArray) (t : Int) :
    areaI nm t q = sumN (findB bs nm).1.wid.toNat fun Y => sumN (findB bs nm).1.len.toNat fun X => if holdB (pt nm t X Y) q = true then 1 else 0 := by
  have g := (good_iff hb).1 hg
  have gb := good_box hb hg
  have wx : IntKind.i64.wrap (q.x + q.len) = q.x + q.len := wrap_i64 (by omega) (by omega)
  have wy : IntKind.i64.wrap (q.y + q.wid) = q.y + q.wid := wrap_i64 (by omega) (by omega)
  by_cases hn : q.bay.toList = nm.toList ∧ q.a ≤ t ∧ t < q.b
  · have e := toList_inj hn.1
    have hA : areaB q nm t = true := by
      unfold areaB sideB
      simp only [Bool.and_eq_true, decide_eq_true_eq, beq_iff_eq]
      exact ⟨⟨⟨⟨hn.1, hn.2.1⟩, hn.2.2⟩, by omega, by omega⟩, by omega, by omega⟩
    unfold areaI
    rw [if_pos hA]
    rw [e] at g
    have e2 : ∀ Y : Nat, (sumN (findB bs nm).1.len.toNat fun X => if holdB (pt nm t X Y) q = true then 1 else 0) = if q.y ≤ (Y : Int) ∧ (Y : Int) < q.y + q.wid then q.len else 0 := by
      intro Y
      by_cases hY : q.y ≤ (Y : Int) ∧ (Y : Int) < q.y + q.wid
      · rw [if_pos hY]
        have := sumN_box (lo := q.x) (sz := q.len) (v := 1) (n := (findB bs nm).1.len.toNat) (by omega) (by omega) (by omega)
        rw [Int.mul_one] at this
        rw [← this]
        refine sumN_congr _ fun X _ => ?_
        have : (holdB (pt nm t X Y) q = true) = (q.x ≤ (X : Int) ∧ (X : Int) < q.x + q.len) := by
          unfold holdB pt
          simp only [Bool.and_eq_true, decide_eq_true_eq, beq_iff_eq, wx, wy]
          rw [e]
          exact propext ⟨fun h => ⟨h.1.1.1.1.1.2, h.1.1.1.1.2⟩, fun h => ⟨⟨⟨⟨⟨⟨rfl, h.1⟩, h.2⟩, hY.1⟩, hY.2⟩, hn.2.1⟩, hn.2.2⟩⟩
        simp only [this]
      · rw [if_neg hY]
        refine (sumN_congr _ fun X _ => ?_).trans (sumN_zero _)
        rw [if_neg]
        unfold holdB pt
        simp only [Bool.and_eq_true, decide_eq_true_eq, beq_iff_eq, wx, wy]
        intro h
        exact hY ⟨h.1.1.1.2, h.1.1.2⟩
    rw [sumN_congr _ fun Y _ => e2 Y, sumN_box (by omega) (by omega) (by omega), Int.mul_comm]
  · have hA : ¬ areaB q nm t = true := by
      unfold areaB
      simp only [Bool.and_eq_true, decide_eq_true_eq, beq_iff_eq]
      intro h
      exact hn ⟨h.1.1.1.1, h.1.1.1.2, h.1.1.2⟩
    unfold areaI
    rw [if_neg hA]
    refine ((sumN_congr _ fun Y _ => (sumN_congr _ fun X _ => ?_).trans (sumN_zero _)).trans (sumN_zero _)).symm
    rw [if_neg]
    unfold holdB pt
    simp only [Bool.and_eq_true, decide_eq_true_eq, beq_iff_eq]
    intro h
    exact hn ⟨h.1.1.1.1.1.1, h.1.2, h.2⟩
theorem area_bound {bs : List By} {l : List Sty} (hC : checkE bs l = 0) (nm : ByteArray) (t : Int) : 0 ≤ areaE l nm t ∧ areaE l nm t ≤ ((findB bs nm).1.wid.toNat : Int) * ((findB bs nm).1.len.toNat : Int) := by
  have hC' := (checkE_iff bs l).1 hC
  have hb := hC'.1
  have hg := hC'.2.2.1
  have e := areaE_sum hb nm t l 0 hg (Int.le_refl _) (by omega)
  unfold areaE
  rw [e, Int.zero_add]
  constructor
  · have : ∀ m : List Sty, (∀ q ∈ m, good bs q = true) → 0 ≤ (m.map (areaI nm t)).sum := by
      intro m
      induction m with
      | nil => intro _; simp
      | cons a m ih =>
        intro h
        have h1 := areaI_le hb (h a (by simp)) nm t
        have h2 := ih fun q hq => h q (by simp [hq])
        simp only [List.map_cons, List.sum_cons]
        omega
    exact this l hg
  · have e1 : (l.map (areaI nm t)).sum = (l.map fun q => sumN (findB bs nm).1.wid.toNat fun Y => sumN (findB bs nm).1.len.toNat fun X => if holdB (pt nm t X Y) q = true then 1 else 0).sum := by
      congr 1
      exact List.map_congr_left fun q hq => area_cells hb (hg q hq) nm t
    rw [e1, sumN_list (findB bs nm).1.wid.toNat (fun Y q => sumN (findB bs nm).1.len.toNat fun X => if holdB (pt nm t X Y) q = true then 1 else 0) l]
    refine Int.le_trans (sumN_le _ (g := fun _ => ((findB bs nm).1.len.toNat : Int)) fun Y _ => ?_) (by rw [sumN_const]; exact Int.le_refl _)
    rw [sumN_list (findB bs nm).1.len.toNat (fun X q => if holdB (pt nm t X Y) q = true then 1 else 0) l]
    refine Int.le_trans (sumN_le _ (g := fun _ => 1) fun X _ => ?_) (by rw [sumN_const]; omega)
    rw [sum_filter]
    have := hold_once hC (pt nm t X Y)
    omega
theorem area_none {bs : List By} {l : List Sty} (hC : checkE bs l = 0) {nm : ByteArray} (t : Int) (hf : (findB bs nm).2 = false) : areaE l nm t = 0 := by
  have hC' := (checkE_iff bs l).1 hC
  have hb := hC'.1
  have hg := hC'.2.2.1
  have e := areaE_sum hb nm t l 0 hg (Int.le_refl _) (by omega)
  unfold areaE
  rw [e, Int.zero_add]
  have : ∀ m : List Sty, (∀ q ∈ m, good bs q = true) → (m.map (areaI nm t)).sum = 0 := by
    intro m
    induction m with
    | nil => intro _; simp
    | cons a m ih =>
      intro h
      have h2 := ih fun q hq => h q (by simp [hq])
      have h1 : areaI nm t a = 0 := by
        unfold areaI
        rw [if_neg]
        unfold areaB
        simp only [Bool.and_eq_true, decide_eq_true_eq, beq_iff_eq]
        intro hh
        have g := (good_iff hb).1 (h a (by simp))
        rw [toList_inj hh.1.1.1.1, hf] at g
        exact absurd g.2.1 (by simp)
      simp only [List.map_cons, List.sum_cons]
      omega
  exact this l hg
end Go.Proofs
end
section
set_option linter.unusedVariables false
set_option linter.unusedSimpArgs false
namespace Go.Proofs
open Go Go.Ab
set_option maxHeartbeats 4000000
set_option maxRecDepth 100000
set_option linter.unusedSimpArgs false
set_option linter.unusedVariables false
attribute [local irreducible] Awp aops aopsL Go.Ab.Pure PureOwn
theorem rarea_ok (l : List Sty) (nm : ByteArray) (t : Int) (hl : l.length < 900000) : Pure Tryd.prog 20 [.sl (stys l), .v (.string nm), .v (.int .i64 t)] (.v (.int .i64 (areaE l nm t))) := by
  refine fn_pure Tryd.F20 (Nat.le_of_ble_eq_true rfl) ?_; unfold Tryd.ac20
  repeat' (first
    | (apply Awp.sreg; (case hn => (simp only [List.length_cons, List.length_nil, Nat.reduceAdd] <;> rfl)))
    | (refine st_nil ?_)
    | (apply st_a; (case hc => rfl); (case he => (simp only [go_sem, *] <;> rfl)); (case hu => (simp only [updL_nil, updL_cons] <;> rfl)); (case hp => first | trivial | assumption | omega | (simp; done) | (simp; omega) | (simp [*]; done) | ((repeat' (refine And.intro ?_ ?_)) <;> first | trivial | assumption | omega | (simp; done) | (simp; omega) | (simp [*]; done))))
    | refine Awp.block ?_
    | refine Awp.seq ?_)
  refine Awp.loop (fun i : Nat => i ≤ l.length) 100 (fun i => mkS [(0, .sl (stys l)), (1, .v (.string nm)), (2, .v (.int .i64 t)), (7, .v (.int .i64 (areaE (l.take i) nm t))), (8, .v (.int .i64 i))] []) (fun i => l.length - i) 0 (by omega) ?_ ?_
  · have e0 : areaE (l.take 0) nm t = 0 := rfl
    (apply Ghost.mk [] []; (case hdead => rfl); (case hinj => rfl); (case hV => (simp only [go_sem, *]) <;> (repeat' (first | refine And.intro ?_ ?_ | exact View.int (by first | rfl | omega | (simp; done) | (rw [wrap_i64] <;> (try simp only [Int.natCast_add]) <;> omega) | (simp [*]; done))))); (case hB => (simp only [go_sem, *]) <;> (repeat' (first | skip; done))))
  · intro i hi
    by_cases hlt : i < l.length
    · have hlt' : (i : Int) < l.length := by omega
      have hat := stys_at l i hlt
      have hz : ((l.getD i zeroSty).cells).length = 8 := rfl
      have hst := areaE_step l nm t i hlt
      unfold areaF at hst
      generalize l.getD i zeroSty = q at *
      cases hB : areaB q nm t
      · rw [hB] at hst
        simp only [Bool.false_eq_true, if_false] at hst
        have hB' := hB
        unfold areaB sideB at hB'
        repeat' (first
    | (apply Awp.sreg; (case hn => (simp only [List.length_cons, List.length_nil, Nat.reduceAdd] <;> rfl)))
    | (refine st_nil ?_)
    | (apply st_a; (case hc => rfl); (case he => (simp only [go_sem, *] <;> rfl)); (case hu => (simp only [updL_nil, updL_cons] <;> rfl)); (case hp => first | trivial | assumption | omega | (simp; done) | (simp; omega) | (simp [*]; done) | ((repeat' (refine And.intro ?_ ?_)) <;> first | trivial | assumption | omega | (simp; done) | (simp; omega) | (simp [*]; done))))
    | (apply st_m; (case hc => rfl); (case hg => (simp only [go_sem, *] <;> rfl)); (case he => (intro hQz; (try simp only [wantB_t, wantB_f, Bool.and_eq_true, Bool.not_eq_true', Bool.not_true, Bool.not_false, and_true, true_and] at hQz); simp only [go_sem, *] <;> rfl)); (case hp => (intro hQz; (try simp only [wantB_t, wantB_f, Bool.and_eq_true, Bool.not_eq_true', Bool.or_eq_false_iff, decide_eq_true_eq, decide_eq_false_iff_not, beq_iff_eq, beq_eq_false_iff_ne, bne_iff_ne, bne_eq_false_iff_eq, Int.not_lt, Int.not_le, Int.ofNat_lt, Int.ofNat_le] at hQz); first | trivial | assumption | omega | (simp; done) | (simp; omega) | (simp [*]; done) | ((repeat' (refine And.intro ?_ ?_)) <;> first | trivial | assumption | omega | (simp; done) | (simp; omega) | (simp [*]; done)))))
    | (apply st_mc; (case hop => rfl); (case hg => (simp only [go_sem, *] <;> rfl)); (case hc => (intro hQz; (try simp only [wantB_t, wantB_f, Bool.and_eq_true, Bool.not_eq_true', Bool.not_true, Bool.not_false, and_true, true_and] at hQz); simp only [go_sem, *] <;> rfl)); (case hl => (intro hQz; (try simp only [wantB_t, wantB_f, Bool.and_eq_true, Bool.not_eq_true', Bool.not_true, Bool.not_false, and_true, true_and] at hQz); simp only [go_sem, *] <;> rfl)); (case hn => (intro hQz; (try simp only [wantB_t, wantB_f, Bool.and_eq_true, Bool.not_eq_true', Bool.not_true, Bool.not_false, and_true, true_and] at hQz); simp only [go_sem, *] <;> rfl)); (case hp => intro hQz; first | exact in_ok _ _ _ | (have hXz := in_ok _ _ _; simp only [go_sem, *] at hXz; exact hXz)))
    | (apply Awp.reg; (case hn => (simp only [List.length_cons, List.length_nil, Nat.reduceAdd] <;> rfl)))
    | (refine Awp.skip ?_; try simp only [go_sem, *])
    | refine Awp.block ?_
    | (apply Awp.cond; (case hc => (simp only [go_sem, *] <;> rfl)); all_goals (intro hg; (try simp only [Bool.not_true, Bool.not_false, reduceCtorEq] at hg)))
    | refine Awp.seq ?_)
        refine ⟨i + 1, by omega, by omega, ?_⟩
        (apply Ghost.mk [] []; (case hdead => rfl); (case hinj => rfl); (case hV => (simp only [go_sem, *]) <;> (repeat' (first | exact View.int (by first | rfl | omega | (simp; done) | (rw [wrap_i64] <;> (try simp only [Int.natCast_add]) <;> omega) | (simp [*]; done))))); (case hB => (simp only [go_sem, *]) <;> (repeat' (first | skip; done))))
      · rw [hB] at hst
        simp only [if_true] at hst
        have hB' := hB
        unfold areaB sideB at hB'
        repeat' (first
    | (apply Awp.sreg; (case hn => (simp only [List.length_cons, List.length_nil, Nat.reduceAdd] <;> rfl)))
    | (refine st_nil ?_)
    | (apply st_a; (case hc => rfl); (case he => (simp only [go_sem, *] <;> rfl)); (case hu => (simp only [updL_nil, updL_cons] <;> rfl)); (case hp => first | trivial | assumption | omega | (simp; done) | (simp; omega) | (simp [*]; done) | ((repeat' (refine And.intro ?_ ?_)) <;> first | trivial | assumption | omega | (simp; done) | (simp; omega) | (simp [*]; done))))
    | (apply st_m; (case hc => rfl); (case hg => (simp only [go_sem, *] <;> rfl)); (case he => (intro hQz; (try simp only [wantB_t, wantB_f, Bool.and_eq_true, Bool.not_eq_true', Bool.not_true, Bool.not_false, and_true, true_and] at hQz); simp only [go_sem, *] <;> rfl)); (case hp => (intro hQz; (try simp only [wantB_t, wantB_f, Bool.and_eq_true, Bool.not_eq_true', Bool.or_eq_false_iff, decide_eq_true_eq, decide_eq_false_iff_not, beq_iff_eq, beq_eq_false_iff_ne, bne_iff_ne, bne_eq_false_iff_eq, Int.not_lt, Int.not_le, Int.ofNat_lt, Int.ofNat_le] at hQz); first | trivial | assumption | omega | (simp; done) | (simp; omega) | (simp [*]; done) | ((repeat' (refine And.intro ?_ ?_)) <;> first | trivial | assumption | omega | (simp; done) | (simp; omega) | (simp [*]; done)))))
    | (apply st_mc; (case hop => rfl); (case hg => (simp only [go_sem, *] <;> rfl)); (case hc => (intro hQz; (try simp only [wantB_t, wantB_f, Bool.and_eq_true, Bool.not_eq_true', Bool.not_true, Bool.not_false, and_true, true_and] at hQz); simp only [go_sem, *] <;> rfl)); (case hl => (intro hQz; (try simp only [wantB_t, wantB_f, Bool.and_eq_true, Bool.not_eq_true', Bool.not_true, Bool.not_false, and_true, true_and] at hQz); simp only [go_sem, *] <;> rfl)); (case hn => (intro hQz; (try simp only [wantB_t, wantB_f, Bool.and_eq_true, Bool.not_eq_true', Bool.not_true, Bool.not_false, and_true, true_and] at hQz); simp only [go_sem, *] <;> rfl)); (case hp => intro hQz; first | exact in_ok _ _ _ | (have hXz := in_ok _ _ _; simp only [go_sem, *] at hXz; exact hXz)))
    | (apply Awp.reg; (case hn => (simp only [List.length_cons, List.length_nil, Nat.reduceAdd] <;> rfl)))
    | (refine Awp.skip ?_; try simp only [go_sem, *])
    | refine Awp.block ?_
    | (apply Awp.cond; (case hc => (simp only [go_sem, *] <;> rfl)); all_goals (intro hg; (try simp only [Bool.not_true, Bool.not_false, reduceCtorEq] at hg)))
    | refine Awp.seq ?_)
        refine ⟨i + 1, by omega, by omega, ?_⟩
        (apply Ghost.mk [] []; (case hdead => rfl); (case hinj => rfl); (case hV => (simp only [go_sem, *]) <;> (repeat' (first | exact View.int (by first | rfl | omega | (simp; done) | (rw [wrap_i64] <;> (try simp only [Int.natCast_add]) <;> omega) | (simp [*]; done))))); (case hB => (simp only [go_sem, *]) <;> (repeat' (first | skip; done))))
    · have hlt' : ¬ (i : Int) < l.length := by omega
      have e1 : l.take i = l := List.take_of_length_le (by omega)
      repeat' (first
    | (apply Awp.sreg; (case hn => (simp only [List.length_cons, List.length_nil, Nat.reduceAdd] <;> rfl)))
    | (refine st_nil ?_)
    | (apply st_a; (case hc => rfl); (case he => (simp only [go_sem, *] <;> rfl)); (case hu => (simp only [updL_nil, updL_cons] <;> rfl)); (case hp => first | trivial | assumption | omega | (simp; done) | (simp; omega) | (simp [*]; done) | ((repeat' (refine And.intro ?_ ?_)) <;> first | trivial | assumption | omega | (simp; done) | (simp; omega) | (simp [*]; done))))
    | (refine Awp.ret ?_; try simp only [go_sem, *])
    | (refine Awp.exit ?_; try simp only [go_sem, *])
    | (apply Awp.cond; (case hc => (simp only [go_sem, *] <;> rfl)); all_goals (intro hg; (try simp only [Bool.not_true, Bool.not_false, reduceCtorEq] at hg)))
    | refine Awp.seq ?_)
      all_goals repeat' (first | exact Lower.int (by first | rfl | (simp only [true_and, Bool.true_and, Bool.false_and, Bool.and_true, Bool.and_false, Bool.true_or, Bool.false_or, reduceIte, Bool.false_eq_true, *]; done) | (simp only [true_and, reduceIte, Bool.false_eq_true, *] <;> rfl) | (simp [true_and]; done) | (simp_all [true_and]; done) | omega))
def arS (p : Pl) (nm : ByteArray) (n : Int) (i : Nat) : AState :=
  mkS [(1, .v (.string nm)), (3, .bp 0 0), (7, .v (.int .i64 n)), (8, .v (.int .i64 i))] [(0, .box [.sl (bys p.bays), .sl (stys p.stays)])]
theorem areas_ok (p : Pl) (nm : ByteArray) (t : Int) : Pure Tryd.prog 6 [p.av, .v (.string nm), .v (.int .i64 t)] (.v (.bool true)) := by
  have c0 := few_ok p.bays p.stays
  cases h1 : fewB p.bays p.stays
  · rw [h1] at c0
    unfold Pl.av at *
    refine fn_pure Tryd.F6 (Nat.le_of_ble_eq_true rfl) ?_; unfold Tryd.ac6
    repeat' (first
    | (apply Awp.sreg; (case hn => (simp only [List.length_cons, List.length_nil, Nat.reduceAdd] <;> rfl)))
    | (refine st_nil ?_)
    | (apply st_a; (case hc => rfl); (case he => (simp only [go_sem, *] <;> rfl)); (case hu => (simp only [updL_nil, updL_cons] <;> rfl)); (case hp => first | trivial | assumption | omega | (simp; done) | (simp; omega) | (simp [*]; done) | ((repeat' (refine And.intro ?_ ?_)) <;> first | trivial | assumption | omega | (simp; done) | (simp; omega) | (simp [*]; done))))
    | (apply st_c; (case hc => (simp only [go_sem, *] <;> rfl)); (case hl => (simp only [go_sem, *] <;> rfl)); (case hn => (simp only [go_sem, *] <;> rfl)); (case hp => first | exact c0 | (have hXz := c0; simp only [go_sem, *] at hXz; exact hXz)))
    | (apply st_c; (case hc => (simp only [go_sem, *] <;> rfl)); (case hl => (simp only [go_sem, *] <;> rfl)); (case hn => (simp only [go_sem, *] <;> rfl)); (case hp => first | exact awake_ok | (have hXz := awake_ok; simp only [go_sem, *] at hXz; exact hXz)))
    | (refine Awp.ret ?_; try simp only [go_sem, *])
    | (apply Awp.cond; (case hc => (simp only [go_sem, *] <;> rfl)); all_goals (intro hg; (try simp only [Bool.not_true, Bool.not_false, reduceCtorEq] at hg)))
    | refine Awp.seq ?_)
    all_goals repeat' (first | exact Lower.bool (by first | rfl | (simp only [true_and, Bool.true_and, Bool.false_and, Bool.and_true, Bool.and_false, Bool.true_or, Bool.false_or, reduceIte, Bool.false_eq_true, *]; done) | (simp only [true_and, reduceIte, Bool.false_eq_true, *] <;> rfl) | (simp [true_and]; done) | (simp_all [true_and]; done) | omega))
  obtain ⟨f1, f2, f3⟩ := few_size h1
  have c1 := area_ok p.stays nm t (by omega)
  have c2 := rarea_ok p.stays nm t (by omega)
  have c3 := rcheck_ok p.bays p.stays (by omega) (by omega) (fun i hi => by have := f3 i hi; omega)
  rw [h1] at c0
  have hbn : ∀ i, i < p.bays.length → checkE p.bays p.stays = 0 → (p.bays.getD i zeroBy).nm.toList = nm.toList → (∀ j, j < i → ((p.bays.getD j zeroBy).nm.toList == nm.toList) = false) → 0 ≤ areaE p.stays nm t ∧ areaE p.stays nm t ≤ IntKind.i64.wrap ((p.bays.getD i zeroBy).len * (p.bays.getD i zeroBy).wid) := by
    intro i hi hC he hj
    have hb := ((checkE_iff _ _).1 hC).1
    have hx := idxF_in (p := fun q : By => q.nm.toList == nm.toList) (d := zeroBy) hi (by simpa using he) hj
    have hf : findB p.bays nm = (p.bays.getD i zeroBy, true) := by
      unfold findB
      rw [hx, if_neg (by simp)]
      simp
    have hw := bay_wid hb (nm := nm) (by rw [hf])
    have hB := area_bound hC nm t
    rw [hf] at hw hB
    dsimp only at hw hB
    generalize p.bays.getD i zeroBy = q at *
    rw [Int.toNat_of_nonneg (by omega), Int.toNat_of_nonneg (by omega), Int.mul_comm] at hB
    have hm : q.len * q.wid ≤ 274877906944 := Int.le_trans (Int.mul_le_mul_of_nonneg_right (by omega : q.len ≤ 524288) (by omega)) (by omega)
    rw [wrap_i64 (by omega) (by omega)]
    exact hB
  have hno : checkE p.bays p.stays = 0 → (∀ j, j < p.bays.length → ((p.bays.getD j zeroBy).nm.toList == nm.toList) = false) → areaE p.stays nm t = 0 := by
    intro hC hj
    have hx := idxF_out (p := fun q : By => q.nm.toList == nm.toList) (d := zeroBy) (l := p.bays) (Nat.le_refl _) hj
    refine area_none hC t ?_
    unfold findB
    rw [hx, if_pos (by simp)]
  clear h1 f3
  generalize areaE p.stays nm t = n at *
  have hnn : (n != n) = false := by simp
  by_cases hC : checkE p.bays p.stays = 0
  case neg =>
    have hC' : (checkE p.bays p.stays != 0) = true := by simpa using hC
    generalize checkE p.bays p.stays = e at *
    clear hbn hno hC
    unfold Pl.av at *
    refine fn_pure Tryd.F6 (Nat.le_of_ble_eq_true rfl) ?_; unfold Tryd.ac6
    repeat' (first
    | (apply Awp.sreg; (case hn => (simp only [List.length_cons, List.length_nil, Nat.reduceAdd] <;> rfl)))
    | (refine st_nil ?_)
    | (apply st_a; (case hc => rfl); (case he => (simp only [go_sem, *] <;> rfl)); (case hu => (simp only [updL_nil, updL_cons] <;> rfl)); (case hp => first | trivial | assumption | omega | (simp; done) | (simp; omega) | (simp [*]; done) | ((repeat' (refine And.intro ?_ ?_)) <;> first | trivial | assumption | omega | (simp; done) | (simp; omega) | (simp [*]; done))))
    | (apply st_c; (case hc => (simp only [go_sem, *] <;> rfl)); (case hl => (simp only [go_sem, *] <;> rfl)); (case hn => (simp only [go_sem, *] <;> rfl)); (case hp => first | exact c0 | (have hXz := c0; simp only [go_sem, *] at hXz; exact hXz)))
    | (apply st_c; (case hc => (simp only [go_sem, *] <;> rfl)); (case hl => (simp only [go_sem, *] <;> rfl)); (case hn => (simp only [go_sem, *] <;> rfl)); (case hp => first | exact c1 | (have hXz := c1; simp only [go_sem, *] at hXz; exact hXz)))
    | (apply st_c; (case hc => (simp only [go_sem, *] <;> rfl)); (case hl => (simp only [go_sem, *] <;> rfl)); (case hn => (simp only [go_sem, *] <;> rfl)); (case hp => first | exact c2 | (have hXz := c2; simp only [go_sem, *] at hXz; exact hXz)))
    | (apply st_c; (case hc => (simp only [go_sem, *] <;> rfl)); (case hl => (simp only [go_sem, *] <;> rfl)); (case hn => (simp only [go_sem, *] <;> rfl)); (case hp => first | exact c3 | (have hXz := c3; simp only [go_sem, *] at hXz; exact hXz)))
    | (apply st_c; (case hc => (simp only [go_sem, *] <;> rfl)); (case hl => (simp only [go_sem, *] <;> rfl)); (case hn => (simp only [go_sem, *] <;> rfl)); (case hp => first | exact awake_ok | (have hXz := awake_ok; simp only [go_sem, *] at hXz; exact hXz)))
    | (refine Awp.ret ?_; try simp only [go_sem, *])
    | (refine Awp.skip ?_; try simp only [go_sem, *])
    | (apply Awp.cond; (case hc => (simp only [go_sem, *] <;> rfl)); all_goals (intro hg; (try simp only [Bool.not_true, Bool.not_false, reduceCtorEq] at hg)))
    | refine Awp.seq ?_)
    all_goals repeat' (first | exact Lower.bool (by first | rfl | (simp only [true_and, Bool.true_and, Bool.false_and, Bool.and_true, Bool.and_false, Bool.true_or, Bool.false_or, reduceIte, Bool.false_eq_true, *]; done) | (simp only [true_and, reduceIte, Bool.false_eq_true, *] <;> rfl) | (simp [true_and]; done) | (simp_all [true_and]; done) | omega))
  rw [hC] at c3
  replace hbn := fun i hi => hbn i hi hC
  replace hno := hno hC
  unfold Pl.av at *
  refine fn_pure Tryd.F6 (Nat.le_of_ble_eq_true rfl) ?_; unfold Tryd.ac6
  repeat' (first
    | (apply Awp.sreg; (case hn => (simp only [List.length_cons, List.length_nil, Nat.reduceAdd] <;> rfl)))
    | (refine st_nil ?_)
    | (apply st_a; (case hc => rfl); (case he => (simp only [go_sem, *] <;> rfl)); (case hu => (simp only [updL_nil, updL_cons] <;> rfl)); (case hp => first | trivial | assumption | omega | (simp; done) | (simp; omega) | (simp [*]; done) | ((repeat' (refine And.intro ?_ ?_)) <;> first | trivial | assumption | omega | (simp; done) | (simp; omega) | (simp [*]; done))))
    | (apply st_c; (case hc => (simp only [go_sem, *] <;> rfl)); (case hl => (simp only [go_sem, *] <;> rfl)); (case hn => (simp only [go_sem, *] <;> rfl)); (case hp => first | exact c0 | (have hXz := c0; simp only [go_sem, *] at hXz; exact hXz)))
    | (apply st_c; (case hc => (simp only [go_sem, *] <;> rfl)); (case hl => (simp only [go_sem, *] <;> rfl)); (case hn => (simp only [go_sem, *] <;> rfl)); (case hp => first | exact c1 | (have hXz := c1; simp only [go_sem, *] at hXz; exact hXz)))
    | (apply st_c; (case hc => (simp only [go_sem, *] <;> rfl)); (case hl => (simp only [go_sem, *] <;> rfl)); (case hn => (simp only [go_sem, *] <;> rfl)); (case hp => first | exact c2 | (have hXz := c2; simp only [go_sem, *] at hXz; exact hXz)))
    | (apply st_c; (case hc => (simp only [go_sem, *] <;> rfl)); (case hl => (simp only [go_sem, *] <;> rfl)); (case hn => (simp only [go_sem, *] <;> rfl)); (case hp => first | exact c3 | (have hXz := c3; simp only [go_sem, *] at hXz; exact hXz)))
    | (refine Awp.skip ?_; try simp only [go_sem, *])
    | refine Awp.block ?_
    | (apply Awp.cond; (case hc => (simp only [go_sem, *] <;> rfl)); all_goals (intro hg; (try simp only [Bool.not_true, Bool.not_false, reduceCtorEq] at hg)))
    | refine Awp.seq ?_)
  clear c0 c1 c2 c3 hC
  refine Awp.loop (fun i : Nat => i ≤ p.bays.length ∧ ∀ j, j < i → ((p.bays.getD j zeroBy).nm.toList == nm.toList) = false) 100 (fun i => arS p nm n i) (fun i => p.bays.length - i) 0 ⟨by omega, fun j hj => by omega⟩ ?_ ?_
  · unfold arS
    (apply Ghost.mk [] []; (case hdead => rfl); (case hinj => rfl); (case hV => (simp only [go_sem, *]) <;> (repeat' (first | refine And.intro ?_ ?_ | exact View.int (by first | rfl | omega | (simp; done) | (rw [wrap_i64] <;> (try simp only [Int.natCast_add]) <;> omega) | (simp [*]; done)) | exact .bp rfl (by decide)))); (case hB => (simp only [go_sem, *]) <;> (repeat' (first | exact ⟨_, rfl, BView.boxF rfl⟩))))
  · intro i ⟨hi, hj⟩
    by_cases hlt : i < p.bays.length
    · have hlt' : (i : Int) < p.bays.length := by omega
      have hat := bys_at p.bays i hlt
      have hz : ((p.bays.getD i zeroBy).cells).length = 3 := rfl
      have hB := hbn i hlt
      cases hq : (p.bays.getD i zeroBy).nm.toList == nm.toList
      · have hnx := ltSucc hj hq
        generalize p.bays.getD i zeroBy = q at *
        clear hB hbn hno hj
        unfold arS
        repeat' (first
    | (apply Awp.sreg; (case hn => (simp only [List.length_cons, List.length_nil, Nat.reduceAdd] <;> rfl)))
    | (refine st_nil ?_)
    | (apply st_a; (case hc => rfl); (case he => (simp only [go_sem, *] <;> rfl)); (case hu => (simp only [updL_nil, updL_cons] <;> rfl)); (case hp => first | trivial | assumption | omega | (simp; done) | (simp; omega) | (simp [*]; done) | ((repeat' (refine And.intro ?_ ?_)) <;> first | trivial | assumption | omega | (simp; done) | (simp; omega) | (simp [*]; done))))
    | (apply Awp.reg; (case hn => (simp only [List.length_cons, List.length_nil, Nat.reduceAdd] <;> rfl)))
    | (refine Awp.skip ?_; try simp only [go_sem, *])
    | refine Awp.block ?_
    | (apply Awp.cond; (case hc => (simp only [go_sem, *] <;> rfl)); all_goals (intro hg; (try simp only [Bool.not_true, Bool.not_false, reduceCtorEq] at hg)))
    | refine Awp.seq ?_)
        refine ⟨i + 1, ⟨by omega, hnx⟩, by omega, ?_⟩
        (apply Ghost.mk [] []; (case hdead => rfl); (case hinj => rfl); (case hV => (simp only [go_sem, *]) <;> (repeat' (first | refine And.intro ?_ ?_ | exact View.int (by first | rfl | omega | (simp; done) | (rw [wrap_i64] <;> (try simp only [Int.natCast_add]) <;> omega) | (simp [*]; done)) | exact .bp rfl (by decide)))); (case hB => (simp only [go_sem, *]) <;> (repeat' (first | exact ⟨_, rfl, BView.boxF rfl⟩))))
      · obtain ⟨b1, b2⟩ := hB (by simpa using hq) hj
        generalize p.bays.getD i zeroBy = q at *
        clear hbn hno hj
        have d1 : decide (0 ≤ n) = true := by simpa using b1
        have d2 : decide (n ≤ IntKind.i64.wrap (q.len * q.wid)) = true := by simpa using b2
        clear b1 b2
        unfold arS
        repeat' (first
    | (apply Awp.sreg; (case hn => (simp only [List.length_cons, List.length_nil, Nat.reduceAdd] <;> rfl)))
    | (apply Awp.sdraw; (case hn => (simp only [List.length_cons, List.length_nil, Nat.reduceAdd] <;> rfl)))
    | (refine st_nil ?_)
    | (apply st_a; (case hc => rfl); (case he => (simp only [go_sem, *] <;> rfl)); (case hu => (simp only [updL_nil, updL_cons] <;> rfl)); (case hp => first | trivial | assumption | omega | (simp; done) | (simp; omega) | (simp [*]; done) | ((repeat' (refine And.intro ?_ ?_)) <;> first | trivial | assumption | omega | (simp; done) | (simp; omega) | (simp [*]; done))))
    | (refine Awp.ret ?_; try simp only [go_sem, *])
    | (refine Awp.skip ?_; try simp only [go_sem, *])
    | refine Awp.block ?_
    | (apply Awp.cond; (case hc => (simp only [go_sem, *] <;> rfl)); all_goals (intro hg; (try simp only [Bool.not_true, Bool.not_false, reduceCtorEq] at hg)))
    | refine Awp.seq ?_
    | (apply sl_a; (case hc => rfl); (case he => (simp only [go_sem, *] <;> rfl)); (case hu => (simp only [updL_nil, updL_cons] <;> rfl)); (case hl => (simp only [List.map_cons, List.map_nil] <;> rfl)); (case hp => first | trivial | assumption | omega | (simp; done) | (simp; omega) | (simp [*]; done) | ((repeat' (refine And.intro ?_ ?_)) <;> first | trivial | assumption | omega | (simp; done) | (simp; omega) | (simp [*]; done))))
    | (apply sl_ga; (case hb => rfl); (case hv => (simp only [go_sem, *] <;> rfl)); (case he => (simp only [go_sem, *] <;> rfl)); (case hu => (simp only [updL_nil, updL_cons] <;> rfl)); (case hl => (simp only [List.map_cons, List.map_nil] <;> rfl)); (case hp => first | trivial | assumption | omega | (simp; done) | (simp; omega) | (simp [*]; done) | ((repeat' (refine And.intro ?_ ?_)) <;> first | trivial | assumption | omega | (simp; done) | (simp; omega) | (simp [*]; done))))
    | (apply sl_cg; (case hop => rfl); (case hv => (simp only [go_sem, *] <;> rfl)); (case hc => (simp only [go_sem, *] <;> rfl)); (case hl => (simp only [go_sem, *] <;> rfl)); (case hn => (simp only [go_sem, *] <;> rfl)); (case hp => first | exact awake_ok | (have hXz := awake_ok; simp only [go_sem, *] at hXz; exact hXz)); (case hd => first | exact .inl rfl | exact .inr (.v _) | exact .inr .any | exact .inr .nils); (case hm => first | decide | (simp; done)))
    | (refine sl_nil (And.intro (by first | exact drawOk_of (by decide +kernel) | (simp only [List.map_cons, List.map_nil]; exact drawOk_of (by decide +kernel)) | decide) ?_)))
        all_goals repeat' (first | exact Lower.bool (by first | rfl | (simp only [true_and, Bool.true_and, Bool.false_and, Bool.and_true, Bool.and_false, Bool.true_or, Bool.false_or, reduceIte, Bool.false_eq_true, *]; done) | (simp only [true_and, reduceIte, Bool.false_eq_true, *] <;> rfl) | (simp [true_and]; done) | (simp_all [true_and]; done) | omega))
    · have hlt' : ¬ (i : Int) < p.bays.length := by omega
      have h0 := hno (fun j hjl => hj j (by omega))
      have h00 : (n == 0) = true := by simpa using h0
      clear hno hbn hj h0
      unfold arS
      repeat' (first
    | (apply Awp.sreg; (case hn => (simp only [List.length_cons, List.length_nil, Nat.reduceAdd] <;> rfl)))
    | (refine st_nil ?_)
    | (apply st_a; (case hc => rfl); (case he => (simp only [go_sem, *] <;> rfl)); (case hu => (simp only [updL_nil, updL_cons] <;> rfl)); (case hp => first | trivial | assumption | omega | (simp; done) | (simp; omega) | (simp [*]; done) | ((repeat' (refine And.intro ?_ ?_)) <;> first | trivial | assumption | omega | (simp; done) | (simp; omega) | (simp [*]; done))))
    | (apply st_mc; (case hop => rfl); (case hg => (simp only [go_sem, *] <;> rfl)); (case hc => (intro hQz; (try simp only [wantB_t, wantB_f, Bool.and_eq_true, Bool.not_eq_true', Bool.not_true, Bool.not_false, and_true, true_and] at hQz); simp only [go_sem, *] <;> rfl)); (case hl => (intro hQz; (try simp only [wantB_t, wantB_f, Bool.and_eq_true, Bool.not_eq_true', Bool.not_true, Bool.not_false, and_true, true_and] at hQz); simp only [go_sem, *] <;> rfl)); (case hn => (intro hQz; (try simp only [wantB_t, wantB_f, Bool.and_eq_true, Bool.not_eq_true', Bool.not_true, Bool.not_false, and_true, true_and] at hQz); simp only [go_sem, *] <;> rfl)); (case hp => intro hQz; first | exact awake_ok | (have hXz := awake_ok; simp only [go_sem, *] at hXz; exact hXz)))
    | (refine Awp.ret ?_; try simp only [go_sem, *])
    | (refine Awp.exit ?_; try simp only [go_sem, *])
    | (apply Awp.cond; (case hc => (simp only [go_sem, *] <;> rfl)); all_goals (intro hg; (try simp only [Bool.not_true, Bool.not_false, reduceCtorEq] at hg)))
    | refine Awp.seq ?_)
      all_goals repeat' (first | exact Lower.bool (by first | rfl | (simp only [true_and, Bool.true_and, Bool.false_and, Bool.and_true, Bool.and_false, Bool.true_or, Bool.false_or, reduceIte, Bool.false_eq_true, *]; done) | (simp only [true_and, reduceIte, Bool.false_eq_true, *] <;> rfl) | (simp [true_and]; done) | (simp_all [true_and]; done) | omega))
end Go.Proofs
end
