import Derived.Test.YtadpljebgkfeoaaGreatDoorPZD
import Derived.ProofKit
import Derived.OpenShut
import Derived.Test.YtadpljebgkfeoaaGreatDoorCards
import Derived.Test.YtadpljebgkfeoaaGreatDoorTie
import Derived.WalkKit
import Derived.Deep.DeepHandedRow
import Derived.Lib.LaidTab
set_option linter.unusedVariables false
set_option linter.unusedSimpArgs false
namespace Go.Proofs
open Go Go.Ab
set_option maxHeartbeats 4000000
set_option maxRecDepth 100000
attribute [local irreducible] Awp aops aopsL Go.Ab.Pure PureOwn
theorem canon_len (l : List Sp) : (canon l).length ≤ l.length := by
  have h1 := merge_len (rinL l)
  rw [rin_canon] at h1
  exact Nat.le_trans h1 (rin_len l)
theorem get_mem {l : List Sp} {i : Nat} (h : i < l.length) : l.getD i zeroSp ∈ l := by
  rw [List.getD_eq_getElem?_getD, List.getElem?_eq_getElem h]
  exact List.getElem_mem h
theorem sps_dry (l : List Sp) : ∀ y ∈ sps l, ∀ c ∈ y, Dry c := by
  intro y hy c hc
  obtain ⟨s, _, rfl⟩ := List.mem_map.1 hy
  simp only [Sp.cells, List.mem_cons, List.not_mem_nil, or_false] at hc
  rcases hc with rfl | rfl <;> exact .v _
def meet (s t : Sp) : Sp := ⟨max s.a t.a, min s.b t.b⟩
theorem inter_len (a b : List Sp) : (interL a b).length = a.length * b.length := by
  unfold interL
  induction a with
  | nil => simp
  | cons s a ih => simp only [List.flatMap_cons, List.length_append, List.length_map, ih, List.length_cons]; rw [Nat.add_mul]; omega
def lsr (ls : List (List Sp)) : List (List AV) := ls.map fun l => [AV.sl (sps l)]
theorem lsr_len (ls : List (List Sp)) : (lsr ls).length = ls.length := by simp [lsr]
theorem lsr_at (ls : List (List Sp)) (i : Nat) (h : i < ls.length) : (lsr ls).getD i [] = [.sl (sps (ls.getD i []))] := by
  simp [lsr, List.getD_eq_getElem?_getD, h]
theorem flat_step (ls : List (List Sp)) (i : Nat) (h : i < ls.length) : (ls.take (i + 1)).flatten = (ls.take i).flatten ++ ls.getD i [] := by
  rw [List.take_add_one, List.getElem?_eq_getElem h, List.flatten_append]
  simp [List.getD_eq_getElem?_getD, h]
theorem flat_le (ls : List (List Sp)) (i : Nat) : (ls.take i).flatten.length ≤ ls.flatten.length := by
  have e : ls.flatten = (ls.take i).flatten ++ (ls.drop i).flatten := by rw [← List.flatten_append, List.take_append_drop]
  rw [e, List.length_append]; omega
def c1S (ls : List (List Sp)) (n : Nat) (i : Nat) : AState := mkS [(0, .sl (lsr ls)), (3, .v (.int .i64 n)), (9, .sl (lsr ls)), (10, .v (.int .i64 ls.length)), (11, .v (.int .i64 i))] []
def c2S (ls : List (List Sp)) (R : List Sp) (i : Nat) : AState := mkS [(6, .own 2), (25, .sl (lsr ls)), (26, .v (.int .i64 ls.length)), (27, .v (.int .i64 i))] [(2, .row (sps R) 2 30)]
theorem concat_ok (ls : List (List Sp)) (hn : ls.length < 100) (hl : ls.flatten.length < 50000) : PureOwn Tryz.prog 87 [.sl (lsr ls)] (sps ls.flatten) 2 30 := by
  have hln := lsr_len ls
  refine fn_own Tryz.F87 (Nat.le_of_ble_eq_true rfl) ?_; unfold Tryz.ac87 AR AM AO
  repeat' (first
 | (apply Awp.sreg; (case hn => (simp only [List.length_cons, List.length_nil, Nat.reduceAdd] <;> rfl)))
 | (refine st_nil ?_)
 | (apply st_a; (case hc => rfl); (case he => (simp only [go_sem, *] <;> rfl)); (case hu => (simp only [updL_nil, updL_cons] <;> rfl)); (case hp => first | trivial))
 | refine Awp.block ?_
 | refine Awp.seq ?_)
  refine Awp.loop (fun i : Nat => i ≤ ls.length) 100 (fun i => c1S ls (ls.take i).flatten.length i) (fun i => ls.length - i) 0 (by omega) ?_ ?_
  · have e1 : (ls.take 0).flatten.length = 0 := by simp
    rw [e1]
    unfold c1S
    (apply Ghost.mk [] []; (case hdead => rfl); (case hinj => rfl); (case hV => (simp only [go_sem, *]) <;> (repeat' (first | refine And.intro ?_ ?_ | exact View.int (by first | rfl | omega | (simp; done) | (rw [wrap_i64] <;> (try simp only [Int.natCast_add]) <;> omega) | (simp [*]; done))))); (case hB => (simp only [go_sem, *]) <;> (repeat' (first | skip; done))))
  · intro i hi
    by_cases hlt : i < ls.length
    · have hlt' : (i : Int) < ls.length := by omega
      have hat := lsr_at ls i hlt
      have hst := flat_step ls i hlt
      have h1 := flat_le ls (i + 1)
      rw [hst, List.length_append] at h1
      obtain ⟨l, hle⟩ : ∃ l, ls.getD i [] = l := ⟨_, rfl⟩
      rw [hle] at hat hst h1
      have hst' : Kept ((ls.take (i + 1)).flatten.length = (ls.take i).flatten.length + l.length) := by unfold Kept; rw [hst, List.length_append]
      clear hst hle
      have hsl := sps_len l
      generalize (ls.take i).flatten.length = N at *
      have hw : IntKind.i64.wrap ((N : Int) + l.length) = ((N + l.length : Nat) : Int) := by rw [wrap_i64 (by omega) (by omega)]; simp
      have hng : decide (((N + l.length : Nat) : Int) < 0) = false := decide_eq_false (by omega)
      unfold c1S
      repeat' (first
 | (apply Awp.sreg; (case hn => (simp only [List.length_cons, List.length_nil, Nat.reduceAdd] <;> rfl)))
 | (refine st_nil ?_)
 | (apply st_a; (case hc => rfl); (case he => (simp only [go_sem, *] <;> rfl)); (case hu => (simp only [updL_nil, updL_cons] <;> rfl)); (case hp => first | trivial | omega))
 | (apply Awp.reg; (case hn => (simp only [List.length_cons, List.length_nil, Nat.reduceAdd] <;> rfl)))
 | (refine Awp.skip ?_; try simp only [go_sem, *])
 | refine Awp.block ?_
 | (apply Awp.cond; (case hc => (simp only [go_sem, *] <;> rfl)); all_goals (intro hg; (try simp only [Bool.not_true, Bool.not_false, reduceCtorEq] at hg)))
 | refine Awp.seq ?_)
      refine ⟨i + 1, by omega, by omega, ?_⟩
      rw [hst'.out]
      (apply Ghost.mk [] []; (case hdead => rfl); (case hinj => rfl); (case hV => (simp only [go_sem, *]) <;> (repeat' (first | exact View.int (by first | rfl | omega | (simp; done) | (rw [wrap_i64] <;> (try simp only [Int.natCast_add]) <;> omega) | (simp [*]; done))))); (case hB => (simp only [go_sem, *]) <;> (repeat' (first | skip; done))))
    · have hlt' : ¬ (i : Int) < ls.length := by omega
      have e1 : ls.take i = ls := List.take_of_length_le (by omega)
      rw [e1]
      have cg := fun nm => grow52 ls.flatten.length (by omega) nm
      have hge : Kept (ls.flatten.length < 50000) := hl
      obtain ⟨N, hN⟩ : ∃ N, ls.flatten.length = N := ⟨_, rfl⟩
      rw [hN] at cg ⊢
      clear hN hl e1
      unfold c1S
      repeat' (first
 | (apply Awp.sreg; (case hn => (simp only [List.length_cons, List.length_nil, Nat.reduceAdd] <;> rfl)))
 | (refine st_nil ?_)
 | (apply st_a; (case hc => rfl); (case he => (simp only [go_sem, *] <;> rfl)); (case hu => (simp only [updL_nil, updL_cons] <;> rfl)); (case hp => first | trivial))
 | (apply st_cc; (case hc => (simp only [go_sem, *] <;> rfl)); (case hcc => exact (cg _)); (case hh => (first | (simp only [List.mem_singleton, forall_eq]; first | (simp only [go_sem, *] <;> rfl) | (simp only [go_sem, *]; simp [ints])) | (intro p hp; cases hp; done) | (intro p hp; simp only [List.mem_cons, List.not_mem_nil, or_false] at hp; rcases hp with rfl | rfl | rfl | rfl | rfl | rfl | rfl <;> (simp only [go_sem, *] <;> rfl)) | (intro p hp; simp only [List.mem_cons, List.not_mem_nil, or_false] at hp; rcases hp with rfl | rfl | rfl | rfl <;> (simp only [go_sem, *] <;> rfl)))); (case hu => (first | (simp; done) | decide)); (case hm => (first | decide | (simp; done))); (case hw => (simp only [updL_nil, updL_cons] <;> rfl)))
 | (refine Awp.exit ?_; try simp only [go_sem, *])
 | refine Awp.block ?_
 | (apply Awp.cond; (case hc => (simp only [go_sem, *] <;> rfl)); all_goals (intro hg; (try simp only [Bool.not_true, Bool.not_false, reduceCtorEq] at hg)))
 | refine Awp.seq ?_)
      clear cg hlt hlt'
      refine Awp.loop (fun i : Nat => i ≤ ls.length) 200 (fun i => c2S ls (ls.take i).flatten i) (fun i => ls.length - i) 0 (by omega) ?_ ?_
      · have e1 : (ls.take 0).flatten = [] := by simp
        rw [e1]
        unfold c2S
        (apply Ghost.mk [(2, 102)] []; (case hdead => rfl); (case hinj => rfl); (case hV => (simp only [go_sem, *]) <;> (repeat' (first | refine And.intro ?_ ?_ | exact View.int (by first | rfl | omega | (simp; done) | (rw [wrap_i64] <;> (try simp only [Int.natCast_add]) <;> omega) | (simp [*]; done)) | exact .own rfl (by decide)))); (case hB => (simp only [go_sem, *]) <;> (repeat' (first | exact ⟨_, rfl, .rowE (by first | rfl | omega | (simp; done) | (rw [wrap_i64] <;> (try simp only [Int.natCast_add]) <;> omega) | (simp [*]; done))⟩))))
      · intro i hi
        by_cases hlt : i < ls.length
        · have hlt' : (i : Int) < ls.length := by omega
          have hat := lsr_at ls i hlt
          have hst := flat_step ls i hlt
          have h1 := flat_le ls (i + 1)
          have hge' := hge.out
          rw [hst, List.length_append] at h1
          obtain ⟨l, hle⟩ : ∃ l, ls.getD i [] = l := ⟨_, rfl⟩
          rw [hle] at hat hst h1
          have hst' : Kept ((ls.take (i + 1)).flatten = (ls.take i).flatten ++ l) := hst
          have hNb : (ls.take i).flatten.length + l.length < 50000 := by omega
          clear hst hle h1 hge'
          generalize (ls.take i).flatten = R at *
          have hsl := sps_len l
          have hsr := sps_len R
          have hol := sps_one l
          have hap := (sps_append R l).symm
          unfold c2S
          repeat' (first
 | (apply Awp.sreg; (case hn => (simp only [List.length_cons, List.length_nil, Nat.reduceAdd] <;> rfl)))
 | (refine st_nil ?_)
 | (apply st_a; (case hc => rfl); (case he => (simp only [go_sem, *] <;> rfl)); (case hu => (simp only [updL_nil, updL_cons] <;> rfl)); (case hp => first | trivial | omega | ((repeat' (refine And.intro ?_ ?_)) <;> first | trivial | assumption | omega | (simp; done) | (simp; omega) | (simp [*]; done))))
 | (apply Awp.reg; (case hn => (simp only [List.length_cons, List.length_nil, Nat.reduceAdd] <;> rfl)))
 | (refine Awp.skip ?_; try simp only [go_sem, *])
 | refine Awp.block ?_
 | (apply Awp.cond; (case hc => (simp only [go_sem, *] <;> rfl)); all_goals (intro hg; (try simp only [Bool.not_true, Bool.not_false, reduceCtorEq] at hg)))
 | refine Awp.seq ?_)
          refine ⟨i + 1, by omega, by omega, ?_⟩
          rw [hst'.out]
          (apply Ghost.mk [(2, 206)] []; (case hdead => rfl); (case hinj => rfl); (case hV => (simp only [go_sem, *]) <;> (repeat' (first | refine And.intro ?_ ?_ | exact View.int (by first | rfl | omega | (simp; done) | (rw [wrap_i64] <;> (try simp only [Int.natCast_add]) <;> omega) | (simp [*]; done)) | exact .own rfl (by decide)))); (case hB => (simp only [go_sem, *]) <;> (repeat' (first | exact ⟨_, rfl, .rowE (by first | rfl | omega | (simp; done) | (rw [wrap_i64] <;> (try simp only [Int.natCast_add]) <;> omega) | (simp [*]; done))⟩))))
        · have hlt' : ¬ (i : Int) < ls.length := by omega
          have e1 : ls.take i = ls := List.take_of_length_le (by omega)
          rw [e1]
          unfold c2S
          repeat' (first
 | (apply Awp.sreg; (case hn => (simp only [List.length_cons, List.length_nil, Nat.reduceAdd] <;> rfl)))
 | (refine st_nil ?_)
 | (apply st_a; (case hc => rfl); (case he => (simp only [go_sem, *] <;> rfl)); (case hu => (simp only [updL_nil, updL_cons] <;> rfl)); (case hp => first | trivial))
 | (refine Awp.ret ?_; try simp only [go_sem, *])
 | (refine Awp.exit ?_; try simp only [go_sem, *])
 | (apply Awp.cond; (case hc => (simp only [go_sem, *] <;> rfl)); all_goals (intro hg; (try simp only [Bool.not_true, Bool.not_false, reduceCtorEq] at hg)))
 | refine Awp.seq ?_)
          exact ⟨_, rfl, rfl⟩
theorem concat2 (a b : List Sp) (ha : a.length < 20000) (hb : b.length < 20000) : PureOwn Tryz.prog 87 [.sl [[.sl (sps a)], [.sl (sps b)]]] (sps (a ++ b)) 2 30 := by
  have h := concat_ok [a, b] (by simp) (by simp; omega)
  have e : [a, b].flatten = a ++ b := by simp
  rw [e] at h
  exact h
def nx (c : List Sp) (p : Int) : Nat := c.findIdx fun s => decide (p < s.b)
theorem nx_le (c : List Sp) (p : Int) : nx c p ≤ c.length := List.findIdx_le_length
theorem nx_lt {c : List Sp} {p : Int} {j : Nat} (h : j < nx c p) : (c.getD j zeroSp).b ≤ p := by
  have hl : j < c.length := Nat.lt_of_lt_of_le h (nx_le c p)
  have h1 := List.not_of_lt_findIdx (p := fun s : Sp => decide (p < s.b)) (xs := c) (show j < c.findIdx (fun s : Sp => decide (p < s.b)) from h)
  have e : c.getD j zeroSp = c[j] := by simp [List.getD_eq_getElem?_getD, hl]
  rw [e]
  simpa using h1
theorem nx_at {c : List Sp} {p : Int} (h : nx c p < c.length) : p < (c.getD (nx c p) zeroSp).b := by
  have h1 := List.findIdx_getElem (xs := c) (p := fun s : Sp => decide (p < s.b)) (w := (show c.findIdx (fun s : Sp => decide (p < s.b)) < c.length from h))
  have e : c.getD (nx c p) zeroSp = c[nx c p] := by simp [List.getD_eq_getElem?_getD, h]
  rw [e]
  exact of_decide_eq_true h1
theorem nx_mono {c : List Sp} {p q : Int} (h : p ≤ q) : nx c p ≤ nx c q := by
  by_cases hq : nx c q < c.length
  · have h1 := nx_at hq
    by_cases hlt : nx c q < nx c p
    · have := nx_lt hlt; omega
    · omega
  · have := nx_le c p; have := nx_le c q; omega
theorem has_nx {c : List Sp} (hc : Canon c) (p : Int) : hasB c p = (decide (nx c p < c.length) && decide ((c.getD (nx c p) zeroSp).a ≤ p)) := by
  rw [Bool.eq_iff_iff, hasB_iff, Bool.and_eq_true, decide_eq_true_eq, decide_eq_true_eq]
  constructor
  · rintro ⟨s, hs, h1, h2⟩
    obtain ⟨j, hj, rfl⟩ := List.getElem_of_mem hs
    have hle : nx c p ≤ j := by
      by_cases h : j < nx c p
      · have := nx_lt h
        rw [List.getD_eq_getElem?_getD, List.getElem?_eq_getElem hj] at this
        simp only [Option.getD_some] at this
        omega
      · omega
    have hlt : nx c p < c.length := by omega
    have h3 := nx_at hlt
    have e : c.getD (nx c p) zeroSp = c[nx c p] := by simp [List.getD_eq_getElem?_getD, hlt]
    rw [e] at h3 ⊢
    refine ⟨hlt, ?_⟩
    rcases Nat.lt_or_ge (nx c p) j with h | h
    · have := List.pairwise_iff_getElem.1 hc.1 (nx c p) j hlt hj h; omega
    · have : nx c p = j := by omega
      simp only [this]; exact h1
  · rintro ⟨h1, h2⟩
    exact ⟨_, get_mem h1, h2, nx_at h1⟩
theorem andC_ok (x y : Bool) : Pure Tryz.prog 59 [.v (.bool x), .v (.bool y)] (.v (.bool (x && y))) := by
  cases x
  · refine fn_pure Tryz.F59 (Nat.le_of_ble_eq_true rfl) ?_; unfold Tryz.ac59 AR AM AO
    repeat' (first
 | (apply Awp.sreg; (case hn => (simp only [List.length_cons, List.length_nil, Nat.reduceAdd] <;> rfl)))
 | (refine st_nil ?_)
 | (apply st_a; (case hc => rfl); (case he => (simp only [go_sem, *] <;> rfl)); (case hu => (simp only [updL_nil, updL_cons] <;> rfl)); (case hp => first | trivial))
 | (apply st_m; (case hc => rfl); (case hg => (simp only [go_sem, *] <;> rfl)); (case he => (intro hQz; (try simp only [wantB_t, wantB_f, Bool.and_eq_true, Bool.not_eq_true', Bool.not_true, Bool.not_false, and_true, true_and] at hQz); simp only [go_sem, *] <;> rfl)); (case hp => (intro hQz; (try simp only [wantB_t, wantB_f, Bool.and_eq_true, Bool.not_eq_true', Bool.or_eq_false_iff, decide_eq_true_eq, decide_eq_false_iff_not, beq_iff_eq, beq_eq_false_iff_ne, bne_iff_ne, bne_eq_false_iff_eq, Int.not_lt, Int.not_le, Int.ofNat_lt, Int.ofNat_le] at hQz); first | trivial)))
 | (refine Awp.ret ?_; try simp only [go_sem, *]))
    all_goals repeat' (first | exact Lower.bool (by first | rfl | (simp only [true_and, Bool.true_and, Bool.false_and, Bool.and_true, Bool.and_false, Bool.true_or, Bool.false_or, reduceIte, Bool.false_eq_true, *]; done) | (simp only [true_and, reduceIte, Bool.false_eq_true, *] <;> rfl) | (simp [true_and]; done) | (simp_all [true_and]; done) | omega))
  · refine fn_pure Tryz.F59 (Nat.le_of_ble_eq_true rfl) ?_; unfold Tryz.ac59 AR AM AO
    repeat' (first
 | (apply Awp.sreg; (case hn => (simp only [List.length_cons, List.length_nil, Nat.reduceAdd] <;> rfl)))
 | (refine st_nil ?_)
 | (apply st_a; (case hc => rfl); (case he => (simp only [go_sem, *] <;> rfl)); (case hu => (simp only [updL_nil, updL_cons] <;> rfl)); (case hp => first | trivial))
 | (apply st_m; (case hc => rfl); (case hg => (simp only [go_sem, *] <;> rfl)); (case he => (intro hQz; (try simp only [wantB_t, wantB_f, Bool.and_eq_true, Bool.not_eq_true', Bool.not_true, Bool.not_false, and_true, true_and] at hQz); simp only [go_sem, *] <;> rfl)); (case hp => (intro hQz; (try simp only [wantB_t, wantB_f, Bool.and_eq_true, Bool.not_eq_true', Bool.or_eq_false_iff, decide_eq_true_eq, decide_eq_false_iff_not, beq_iff_eq, beq_eq_false_iff_ne, bne_iff_ne, bne_eq_false_iff_eq, Int.not_lt, Int.not_le, Int.ofNat_lt, Int.ofNat_le] at hQz); first | trivial)))
 | (refine Awp.ret ?_; try simp only [go_sem, *]))
    all_goals repeat' (first | exact Lower.bool (by first | rfl | (simp only [true_and, Bool.true_and, Bool.false_and, Bool.and_true, Bool.and_false, Bool.true_or, Bool.false_or, reduceIte, Bool.false_eq_true, *]; done) | (simp only [true_and, reduceIte, Bool.false_eq_true, *] <;> rfl) | (simp [true_and]; done) | (simp_all [true_and]; done) | omega))
theorem diffC_ok (x y : Bool) : Pure Tryz.prog 58 [.v (.bool x), .v (.bool y)] (.v (.bool (x && !y))) := by
  cases x
  · refine fn_pure Tryz.F58 (Nat.le_of_ble_eq_true rfl) ?_; unfold Tryz.ac58 AR AM AO
    repeat' (first
 | (apply Awp.sreg; (case hn => (simp only [List.length_cons, List.length_nil, Nat.reduceAdd] <;> rfl)))
 | (refine st_nil ?_)
 | (apply st_a; (case hc => rfl); (case he => (simp only [go_sem, *] <;> rfl)); (case hu => (simp only [updL_nil, updL_cons] <;> rfl)); (case hp => first | trivial))
 | (apply st_m; (case hc => rfl); (case hg => (simp only [go_sem, *] <;> rfl)); (case he => (intro hQz; (try simp only [wantB_t, wantB_f, Bool.and_eq_true, Bool.not_eq_true', Bool.not_true, Bool.not_false, and_true, true_and] at hQz); simp only [go_sem, *] <;> rfl)); (case hp => (intro hQz; (try simp only [wantB_t, wantB_f, Bool.and_eq_true, Bool.not_eq_true', Bool.or_eq_false_iff, decide_eq_true_eq, decide_eq_false_iff_not, beq_iff_eq, beq_eq_false_iff_ne, bne_iff_ne, bne_eq_false_iff_eq, Int.not_lt, Int.not_le, Int.ofNat_lt, Int.ofNat_le] at hQz); first | trivial)))
 | (refine Awp.ret ?_; try simp only [go_sem, *]))
    all_goals repeat' (first | exact Lower.bool (by first | rfl | (simp only [true_and, Bool.true_and, Bool.false_and, Bool.and_true, Bool.and_false, Bool.true_or, Bool.false_or, reduceIte, Bool.false_eq_true, *]; done) | (simp only [true_and, reduceIte, Bool.false_eq_true, *] <;> rfl) | (simp [true_and]; done) | (simp_all [true_and]; done) | omega))
  · refine fn_pure Tryz.F58 (Nat.le_of_ble_eq_true rfl) ?_; unfold Tryz.ac58 AR AM AO
    repeat' (first
 | (apply Awp.sreg; (case hn => (simp only [List.length_cons, List.length_nil, Nat.reduceAdd] <;> rfl)))
 | (refine st_nil ?_)
 | (apply st_a; (case hc => rfl); (case he => (simp only [go_sem, *] <;> rfl)); (case hu => (simp only [updL_nil, updL_cons] <;> rfl)); (case hp => first | trivial))
 | (apply st_m; (case hc => rfl); (case hg => (simp only [go_sem, *] <;> rfl)); (case he => (intro hQz; (try simp only [wantB_t, wantB_f, Bool.and_eq_true, Bool.not_eq_true', Bool.not_true, Bool.not_false, and_true, true_and] at hQz); simp only [go_sem, *] <;> rfl)); (case hp => (intro hQz; (try simp only [wantB_t, wantB_f, Bool.and_eq_true, Bool.not_eq_true', Bool.or_eq_false_iff, decide_eq_true_eq, decide_eq_false_iff_not, beq_iff_eq, beq_eq_false_iff_ne, bne_iff_ne, bne_eq_false_iff_eq, Int.not_lt, Int.not_le, Int.ofNat_lt, Int.ofNat_le] at hQz); first | trivial)))
 | (refine Awp.ret ?_; try simp only [go_sem, *]))
    all_goals repeat' (first | exact Lower.bool (by first | rfl | (simp only [true_and, Bool.true_and, Bool.false_and, Bool.and_true, Bool.and_false, Bool.true_or, Bool.false_or, reduceIte, Bool.false_eq_true, *]; done) | (simp only [true_and, reduceIte, Bool.false_eq_true, *] <;> rfl) | (simp [true_and]; done) | (simp_all [true_and]; done) | omega))
def stArgs (p q : Int) : List AV := [.v (.int .i64 p), .v (.int .i64 q), .bp 4 0, .bp 0 0, .bp 5 0, .bp 1 0, .bp 2 0, .bp 3 0]
def stHl (a b O : List Sp) (g i k : Nat) : List (Nat × Blk) := [(4, .box [.v (.int .i64 i)]), (0, .box [.sl (sps a)]), (5, .box [.v (.int .i64 k)]), (1, .box [.sl (sps b)]), (2, .box [.fn g []]), (3, .box [.own 6]), (6, .row (sps O) 2 30)]
def stSt (a b O : List Sp) (g : Nat) (p q : Int) (i k : Nat) : AState := mkS [(0, .v (.int .i64 p)), (1, .v (.int .i64 q)), (2, .bp 4 0), (3, .bp 0 0), (4, .bp 5 0), (5, .bp 1 0), (6, .bp 2 0), (7, .bp 3 0)] (stHl a b O g i k)
theorem step_no (a b O : List Sp) (g : Nat) (f : Bool → Bool → Bool) (hg : ∀ x y, Pure Tryz.prog g [.v (.bool x), .v (.bool y)] (.v (.bool (f x y)))) (ha : Canon a) (hb : Canon b) (hal : a.length < 10000) (hbl : b.length < 10000) (hO : O.length < 100000)
    (p q : Int) (i k nm : Nat) (hi : i ≤ nx a p) (hk : k ≤ nx b p) (hnm : 7 ≤ nm) (hf : f (hasB a p) (hasB b p) = false) :
    CallC Tryz.prog 88 (stArgs p q) (stHl a b O g i k) nm (.tup []) [(4, some (.box [.v (.int .i64 (nx a p))])), (0, some (.box [.sl (sps a)])), (5, some (.box [.v (.int .i64 (nx b p))])), (1, some (.box [.sl (sps b)])), (2, some (.box [.fn g []])), (3, some (.box [.own 6])), (6, some (.row (sps O) 2 30))] := by
  have hc := hg (hasB a p) (hasB b p)
  rw [hf] at hc
  have e1 := has_nx ha p
  have e2 := has_nx hb p
  have la : ∀ j, j < nx a p → j < a.length ∧ (a.getD j zeroSp).b ≤ p := fun j hj => ⟨Nat.lt_of_lt_of_le hj (nx_le a p), nx_lt hj⟩
  have lb : ∀ j, j < nx b p → j < b.length ∧ (b.getD j zeroSp).b ≤ p := fun j hj => ⟨Nat.lt_of_lt_of_le hj (nx_le b p), nx_lt hj⟩
  have hA : (∃ s : Sp, (sps a).getD (nx a p) [] = s.cells ∧ s.cells.length = 2 ∧ ((nx a p : Int) < a.length) ∧ decide (s.b ≤ p) = false ∧ decide (s.a ≤ p) = hasB a p) ∨ ((¬ (nx a p : Int) < a.length) ∧ hasB a p = false) := by
    by_cases h : nx a p < a.length
    · refine .inl ⟨a.getD (nx a p) zeroSp, sps_at a _ h, rfl, by omega, decide_eq_false (by have := nx_at h; omega), ?_⟩
      rw [e1, decide_eq_true h, Bool.true_and]
    · refine .inr ⟨by omega, ?_⟩
      rw [e1, decide_eq_false h, Bool.false_and]
  have hB : (∃ s : Sp, (sps b).getD (nx b p) [] = s.cells ∧ s.cells.length = 2 ∧ ((nx b p : Int) < b.length) ∧ decide (s.b ≤ p) = false ∧ decide (s.a ≤ p) = hasB b p) ∨ ((¬ (nx b p : Int) < b.length) ∧ hasB b p = false) := by
    by_cases h : nx b p < b.length
    · refine .inl ⟨b.getD (nx b p) zeroSp, sps_at b _ h, rfl, by omega, decide_eq_false (by have := nx_at h; omega), ?_⟩
      rw [e2, decide_eq_true h, Bool.true_and]
    · refine .inr ⟨by omega, ?_⟩
      rw [e2, decide_eq_false h, Bool.false_and]
  have ila := nx_le a p
  have ilb := nx_le b p
  have eO := sps_snoc O ⟨p, q⟩
  have eO1 := sps_one O
  have eO2 := sps_len O
  have ean := sps_len a
  have ebn := sps_len b
  dsimp only at eO
  clear e1 e2 ha hb hf hg
  generalize nx a p = I at *
  generalize nx b p = J at *
  generalize hasB a p = X at *
  generalize hasB b p = Y at *
  unfold stArgs stHl
  refine fn_cc Tryz.F88 (Nat.le_of_ble_eq_true rfl) (bs := 7) ?_ ?_ ?_ ?_ ?_ ?_ ?_
  · simp
  · simp; omega
  · simp
  · simp
  · simp only [List.map_cons, List.map_nil, List.mem_cons, List.not_mem_nil, or_false]
    rintro p (rfl | rfl | rfl | rfl | rfl | rfl | rfl)
    · exact .box rfl fun j hj => .low (by match j, hj with | 0, _ => exact .same _ rfl)
    · exact .box rfl fun j hj => .low (by match j, hj with | 0, _ => exact .same _ rfl)
    · exact .box rfl fun j hj => .low (by match j, hj with | 0, _ => exact .same _ rfl)
    · exact .box rfl fun j hj => .low (by match j, hj with | 0, _ => exact .same _ rfl)
    · exact .box rfl fun j hj => by match j, hj with | 0, _ => exact .fn rfl fun j hj => by simp at hj
    · exact .box rfl fun j hj => by match j, hj with | 0, _ => exact .own rfl (by simp)
    · exact .row rfl
  · intro j hj
    match j, hj with
    | 0, _ => exact .low (.same _ rfl)
    | 1, _ => exact .low (.same _ rfl)
    | 2, _ => exact .bp rfl (by simp)
    | 3, _ => exact .bp rfl (by simp)
    | 4, _ => exact .bp rfl (by simp)
    | 5, _ => exact .bp rfl (by simp)
    | 6, _ => exact .bp rfl (by simp)
    | 7, _ => exact .bp rfl (by simp)
  · unfold Tryz.ac88 AR AM AO
    refine Awp.ghost (nx' := 7) (S' := stSt a b O g p q i k) (by
      unfold stSt stHl
      (apply Ghost.mkB []; (case hnb => rfl); (case hbx => omega); (case hinj => rfl); (case hV => (simp only [go_sem, *]) <;> (repeat' (first | refine And.intro ?_ ?_ | exact .bp rfl (by decide)))); (case hB => (simp only [go_sem, *]) <;> (repeat' (first | refine And.intro ?_ ?_ | exact ⟨_, rfl, BView.boxF rfl⟩ | exact ⟨_, rfl, BView.own1 rfl (by decide)⟩ | exact ⟨_, rfl, .rowE (by first | rfl | omega | (simp; done) | (rw [wrap_i64] <;> (try simp only [Int.natCast_add]) <;> omega) | (simp [*]; done))⟩ | exact ⟨_, rfl, BView.fn0⟩))))) ?_
    unfold stSt stHl
    repeat' (first
 | refine Awp.block ?_
 | refine Awp.seq ?_)
    refine Awp.loop (fun j : Nat => j ≤ I) 100 (fun j => stSt a b O g p q j k) (fun j => I - j) i hi ?_ ?_
    · unfold stSt stHl
      (apply Ghost.mkB []; (case hnb => rfl); (case hbx => omega); (case hinj => rfl); (case hV => (simp only [go_sem, *]) <;> (repeat' (first | refine And.intro ?_ ?_ | exact .bp rfl (by decide)))); (case hB => (simp only [go_sem, *]) <;> (repeat' (first | refine And.intro ?_ ?_ | exact ⟨_, rfl, BView.boxF rfl⟩ | exact ⟨_, rfl, BView.own1 rfl (by decide)⟩ | exact ⟨_, rfl, .rowE (by first | rfl | omega | (simp; done) | (rw [wrap_i64] <;> (try simp only [Int.natCast_add]) <;> omega) | (simp [*]; done))⟩ | exact ⟨_, rfl, BView.fn0⟩))))
    · intro j hj
      by_cases hjI : j < I
      · obtain ⟨h1, h2⟩ := la j hjI
        have h1' : (j : Int) < a.length := by omega
        have hw : IntKind.i64.wrap ((j : Int) + 1) = ((j + 1 : Nat) : Int) := by rw [wrap_i64 (by omega) (by omega)]; simp
        have h2' : decide ((a.getD j zeroSp).b ≤ p) = true := decide_eq_true h2
        have hat := sps_at a j h1
        have hz : ((a.getD j zeroSp).cells).length = 2 := rfl
        generalize a.getD j zeroSp = s at *
        clear h2 la lb hA hB hc
        unfold stSt stHl
        repeat' (first
 | (apply Awp.sreg; (case hn => (simp only [List.length_cons, List.length_nil, Nat.reduceAdd] <;> rfl)))
 | (refine st_nil ?_)
 | (apply st_a; (case hc => rfl); (case he => (simp only [go_sem, *] <;> rfl)); (case hu => (simp only [updL_nil, updL_cons] <;> rfl)); (case hp => first | trivial))
 | (apply st_m; (case hc => rfl); (case hg => (simp only [go_sem, *] <;> rfl)); (case he => (intro hQz; (try simp only [wantB_t, wantB_f, Bool.and_eq_true, Bool.not_eq_true', Bool.not_true, Bool.not_false, and_true, true_and] at hQz); simp only [go_sem, *] <;> rfl)); (case hp => (intro hQz; (try simp only [wantB_t, wantB_f, Bool.and_eq_true, Bool.not_eq_true', Bool.or_eq_false_iff, decide_eq_true_eq, decide_eq_false_iff_not, beq_iff_eq, beq_eq_false_iff_ne, bne_iff_ne, bne_eq_false_iff_eq, Int.not_lt, Int.not_le, Int.ofNat_lt, Int.ofNat_le] at hQz); first | trivial | omega)))
 | (apply Awp.reg; (case hn => (simp only [List.length_cons, List.length_nil, Nat.reduceAdd] <;> rfl)))
 | (refine Awp.skip ?_; try simp only [go_sem, *])
 | refine Awp.block ?_
 | (apply Awp.cond; (case hc => (simp only [go_sem, *] <;> rfl)); all_goals (intro hg; (try simp only [Bool.not_true, Bool.not_false, reduceCtorEq] at hg)))
 | refine Awp.seq ?_)
        refine ⟨j + 1, by omega, by omega, ?_⟩
        (apply Ghost.mkB []; (case hnb => rfl); (case hbx => omega); (case hinj => rfl); (case hV => (simp only [go_sem, *]) <;> (repeat' (first | refine And.intro ?_ ?_ | exact .bp rfl (by decide)))); (case hB => (simp only [go_sem, *]) <;> (repeat' (first | refine And.intro ?_ ?_ | exact ⟨_, rfl, BView.boxF rfl⟩ | exact ⟨_, rfl, BView.own1 rfl (by decide)⟩ | exact ⟨_, rfl, .rowE (by first | rfl | omega | (simp; done) | (rw [wrap_i64] <;> (try simp only [Int.natCast_add]) <;> omega) | (simp [*]; done))⟩ | exact ⟨_, rfl, BView.fn0⟩))))
      · have hjI' : j = I := by omega
        subst hjI'
        clear hjI la hj hi
        rcases hA with ⟨s, a1, a2, a3, a4, a5⟩ | ⟨a1, rfl⟩ <;> rcases hB with ⟨t, b1, b2, b3, b4, b5⟩ | ⟨b1, rfl⟩
        all_goals
          unfold stSt stHl
          repeat' (first
 | (apply Awp.sreg; (case hn => (simp only [List.length_cons, List.length_nil, Nat.reduceAdd] <;> rfl)))
 | (refine st_nil ?_)
 | (apply st_a; (case hc => rfl); (case he => (simp only [go_sem, *] <;> rfl)); (case hu => (simp only [updL_nil, updL_cons] <;> rfl)); (case hp => first | trivial))
 | (apply st_m; (case hc => rfl); (case hg => (simp only [go_sem, *] <;> rfl)); (case he => (intro hQz; (try simp only [wantB_t, wantB_f, Bool.and_eq_true, Bool.not_eq_true', Bool.not_true, Bool.not_false, and_true, true_and] at hQz); simp only [go_sem, *] <;> rfl)); (case hp => (intro hQz; (try simp only [wantB_t, wantB_f, Bool.and_eq_true, Bool.not_eq_true', Bool.or_eq_false_iff, decide_eq_true_eq, decide_eq_false_iff_not, beq_iff_eq, beq_eq_false_iff_ne, bne_iff_ne, bne_eq_false_iff_eq, Int.not_lt, Int.not_le, Int.ofNat_lt, Int.ofNat_le] at hQz); first | trivial | omega)))
 | (refine Awp.exit ?_; try simp only [go_sem, *])
 | refine Awp.block ?_
 | (apply Awp.cond; (case hc => (simp only [go_sem, *] <;> rfl)); all_goals (intro hg; (try simp only [Bool.not_true, Bool.not_false, reduceCtorEq] at hg)))
 | refine Awp.seq ?_)
          refine Awp.loop (fun l : Nat => l ≤ J) 200 (fun l => stSt a b O g p q j l) (fun l => J - l) k hk ?_ ?_
          · unfold stSt stHl
            (apply Ghost.mkB []; (case hnb => rfl); (case hbx => omega); (case hinj => rfl); (case hV => (simp only [go_sem, *]) <;> (repeat' (first | refine And.intro ?_ ?_ | exact .bp rfl (by decide)))); (case hB => (simp only [go_sem, *]) <;> (repeat' (first | refine And.intro ?_ ?_ | exact ⟨_, rfl, BView.boxF rfl⟩ | exact ⟨_, rfl, BView.own1 rfl (by decide)⟩ | exact ⟨_, rfl, .rowE (by first | rfl | omega | (simp; done) | (rw [wrap_i64] <;> (try simp only [Int.natCast_add]) <;> omega) | (simp [*]; done))⟩ | exact ⟨_, rfl, BView.fn0⟩))))
          · intro l hl
            by_cases hlJ : l < J
            · obtain ⟨h1, h2⟩ := lb l hlJ
              have h1' : (l : Int) < b.length := by omega
              have hw : IntKind.i64.wrap ((l : Int) + 1) = ((l + 1 : Nat) : Int) := by rw [wrap_i64 (by omega) (by omega)]; simp
              have h2' : decide ((b.getD l zeroSp).b ≤ p) = true := decide_eq_true h2
              have hat := sps_at b l h1
              have hz : ((b.getD l zeroSp).cells).length = 2 := rfl
              generalize b.getD l zeroSp = u at *
              clear h2 lb hc
              unfold stSt stHl
              repeat' (first
 | (apply Awp.sreg; (case hn => (simp only [List.length_cons, List.length_nil, Nat.reduceAdd] <;> rfl)))
 | (refine st_nil ?_)
 | (apply st_a; (case hc => rfl); (case he => (simp only [go_sem, *] <;> rfl)); (case hu => (simp only [updL_nil, updL_cons] <;> rfl)); (case hp => first | trivial))
 | (apply st_m; (case hc => rfl); (case hg => (simp only [go_sem, *] <;> rfl)); (case he => (intro hQz; (try simp only [wantB_t, wantB_f, Bool.and_eq_true, Bool.not_eq_true', Bool.not_true, Bool.not_false, and_true, true_and] at hQz); simp only [go_sem, *] <;> rfl)); (case hp => (intro hQz; (try simp only [wantB_t, wantB_f, Bool.and_eq_true, Bool.not_eq_true', Bool.or_eq_false_iff, decide_eq_true_eq, decide_eq_false_iff_not, beq_iff_eq, beq_eq_false_iff_ne, bne_iff_ne, bne_eq_false_iff_eq, Int.not_lt, Int.not_le, Int.ofNat_lt, Int.ofNat_le] at hQz); first | trivial | omega)))
 | (apply Awp.reg; (case hn => (simp only [List.length_cons, List.length_nil, Nat.reduceAdd] <;> rfl)))
 | (refine Awp.skip ?_; try simp only [go_sem, *])
 | refine Awp.block ?_
 | (apply Awp.cond; (case hc => (simp only [go_sem, *] <;> rfl)); all_goals (intro hg; (try simp only [Bool.not_true, Bool.not_false, reduceCtorEq] at hg)))
 | refine Awp.seq ?_)
              refine ⟨l + 1, by omega, by omega, ?_⟩
              (apply Ghost.mkB []; (case hnb => rfl); (case hbx => omega); (case hinj => rfl); (case hV => (simp only [go_sem, *]) <;> (repeat' (first | refine And.intro ?_ ?_ | exact .bp rfl (by decide)))); (case hB => (simp only [go_sem, *]) <;> (repeat' (first | refine And.intro ?_ ?_ | exact ⟨_, rfl, BView.boxF rfl⟩ | exact ⟨_, rfl, BView.own1 rfl (by decide)⟩ | exact ⟨_, rfl, .rowE (by first | rfl | omega | (simp; done) | (rw [wrap_i64] <;> (try simp only [Int.natCast_add]) <;> omega) | (simp [*]; done))⟩ | exact ⟨_, rfl, BView.fn0⟩))))
            · have hlJ' : l = J := by omega
              subst hlJ'
              clear hlJ lb hl hk
              unfold stSt stHl
              repeat' (first
 | (apply Awp.sreg; (case hn => (simp only [List.length_cons, List.length_nil, Nat.reduceAdd] <;> rfl)))
 | (apply Awp.sdraw; (case hn => (simp only [List.length_cons, List.length_nil, Nat.reduceAdd] <;> rfl)))
 | (refine st_nil ?_)
 | (apply st_a; (case hc => rfl); (case he => (simp only [go_sem, *] <;> rfl)); (case hu => (simp only [updL_nil, updL_cons] <;> rfl)); (case hp => first | trivial))
 | (apply st_m; (case hc => rfl); (case hg => (simp only [go_sem, *] <;> rfl)); (case he => (intro hQz; (try simp only [wantB_t, wantB_f, Bool.and_eq_true, Bool.not_eq_true', Bool.not_true, Bool.not_false, and_true, true_and] at hQz); simp only [go_sem, *] <;> rfl)); (case hp => (intro hQz; (try simp only [wantB_t, wantB_f, Bool.and_eq_true, Bool.not_eq_true', Bool.or_eq_false_iff, decide_eq_true_eq, decide_eq_false_iff_not, beq_iff_eq, beq_eq_false_iff_ne, bne_iff_ne, bne_eq_false_iff_eq, Int.not_lt, Int.not_le, Int.ofNat_lt, Int.ofNat_le] at hQz); first | trivial | omega)))
 | (refine Awp.skip ?_; try simp only [go_sem, *])
 | (refine Awp.exit ?_; try simp only [go_sem, *])
 | (apply Awp.cond; (case hc => (simp only [go_sem, *] <;> rfl)); all_goals (intro hg; (try simp only [Bool.not_true, Bool.not_false, reduceCtorEq] at hg)))
 | refine Awp.seq ?_
 | (apply sl_a; (case hc => rfl); (case he => (simp only [go_sem, *] <;> rfl)); (case hu => (simp only [updL_nil, updL_cons] <;> rfl)); (case hl => (simp only [List.map_cons, List.map_nil] <;> rfl)); (case hp => first | trivial))
 | (apply sl_gn; (case hv => (simp only [go_sem, *] <;> rfl)); (case hbw => rfl))
 | (apply sl_ga; (case hb => rfl); (case hv => (simp only [go_sem, *] <;> rfl)); (case he => (simp only [go_sem, *] <;> rfl)); (case hu => (simp only [updL_nil, updL_cons] <;> rfl)); (case hl => (simp only [List.map_cons, List.map_nil] <;> rfl)); (case hp => first | trivial | omega))
 | (apply sl_c; (case hc => (simp only [go_sem, *] <;> rfl)); (case hl => (simp only [go_sem, *] <;> rfl)); (case hn => (simp only [go_sem, *] <;> rfl)); (case hp => first | exact hc | (have hXz := hc; simp only [go_sem, *] at hXz; exact hXz)); (case hd => first | exact .inl rfl | exact .inr (.v _) | exact .inr .any | exact .inr .nils); (case hm => first | decide | (simp; done)))
 | (refine sl_nil (And.intro (by first | exact drawOk_of (by decide +kernel) | (simp only [List.map_cons, List.map_nil]; exact drawOk_of (by decide +kernel)) | decide) ?_)))
              have hr : ∀ k, k < 7 → rn nm 7 k = k := fun k hk => by unfold rn; rw [if_neg (by omega)]
              have hrn : rn nm 7 nm = 7 := by unfold rn; rw [if_pos rfl]
              refine ⟨7, by omega, .tup rfl fun j hj => by simp at hj, fun k b' hk => ?_⟩
              have hnm0 : (0 : Nat) ≠ nm := by omega
              have hnm1 : (1 : Nat) ≠ nm := by omega
              have hnm2 : (2 : Nat) ≠ nm := by omega
              have hnm3 : (3 : Nat) ≠ nm := by omega
              have hnm4 : (4 : Nat) ≠ nm := by omega
              have hnm5 : (5 : Nat) ≠ nm := by omega
              have hnm6 : (6 : Nat) ≠ nm := by omega
              by_cases h4 : k = 4
              · subst h4
                have e1 : b' = .box [.v (.int .i64 j)] := by simpa [updL, upd, hnm4] using hk.symm
                subst e1
                rw [hr 4 (by omega)]
                exact ⟨_, rfl, .box rfl fun j hj => .low (by match j, hj with | 0, _ => exact .same _ rfl)⟩
              by_cases h0 : k = 0
              · subst h0
                have e1 : b' = .box [.sl (sps a)] := by simpa [updL, upd, hnm0] using hk.symm
                subst e1
                rw [hr 0 (by omega)]
                exact ⟨_, rfl, .box rfl fun j hj => .low (by match j, hj with | 0, _ => exact .same _ rfl)⟩
              by_cases h5 : k = 5
              · subst h5
                have e1 : b' = .box [.v (.int .i64 l)] := by simpa [updL, upd, hnm5] using hk.symm
                subst e1
                rw [hr 5 (by omega)]
                exact ⟨_, rfl, .box rfl fun j hj => .low (by match j, hj with | 0, _ => exact .same _ rfl)⟩
              by_cases h1 : k = 1
              · subst h1
                have e1 : b' = .box [.sl (sps b)] := by simpa [updL, upd, hnm1] using hk.symm
                subst e1
                rw [hr 1 (by omega)]
                exact ⟨_, rfl, .box rfl fun j hj => .low (by match j, hj with | 0, _ => exact .same _ rfl)⟩
              by_cases h2 : k = 2
              · subst h2
                have e1 : b' = .box [.fn g []] := by simpa [updL, upd, hnm2] using hk.symm
                subst e1
                rw [hr 2 (by omega)]
                exact ⟨_, rfl, .box rfl fun j hj => by match j, hj with | 0, _ => exact .fn rfl fun j hj => by simp at hj⟩
              by_cases h3 : k = 3
              · subst h3
                have e1 : b' = .box [.own 6] := by simpa [updL, upd, hnm3] using hk.symm
                subst e1
                rw [hr 3 (by omega)]
                exact ⟨_, rfl, .box rfl fun j hj => by match j, hj with | 0, _ => exact .own (hr 6 (by omega)) (by simp)⟩
              by_cases h6 : k = 6
              · subst h6
                have e1 : b' = .row (sps O) 2 30 := by simpa [updL, upd, hnm6] using hk.symm
                subst e1
                rw [hr 6 (by omega)]
                exact ⟨_, rfl, .row rfl⟩
              simp [updL, upd, listH, h0, h1, h2, h3, h4, h5, h6] at hk
theorem step_yes (a b O : List Sp) (g : Nat) (f : Bool → Bool → Bool) (hg : ∀ x y, Pure Tryz.prog g [.v (.bool x), .v (.bool y)] (.v (.bool (f x y)))) (ha : Canon a) (hb : Canon b) (hal : a.length < 10000) (hbl : b.length < 10000) (hO : O.length < 100000)
    (p q : Int) (i k nm : Nat) (hi : i ≤ nx a p) (hk : k ≤ nx b p) (hnm : 7 ≤ nm) (hf : f (hasB a p) (hasB b p) = true) :
    CallC Tryz.prog 88 (stArgs p q) (stHl a b O g i k) nm (.tup []) [(4, some (.box [.v (.int .i64 (nx a p))])), (0, some (.box [.sl (sps a)])), (5, some (.box [.v (.int .i64 (nx b p))])), (1, some (.box [.sl (sps b)])), (2, some (.box [.fn g []])), (6, none), (nm, some (.row (sps (O ++ [⟨p, q⟩])) 2 30)), (3, some (.box [.own nm]))] := by
  have hc := hg (hasB a p) (hasB b p)
  rw [hf] at hc
  have e1 := has_nx ha p
  have e2 := has_nx hb p
  have la : ∀ j, j < nx a p → j < a.length ∧ (a.getD j zeroSp).b ≤ p := fun j hj => ⟨Nat.lt_of_lt_of_le hj (nx_le a p), nx_lt hj⟩
  have lb : ∀ j, j < nx b p → j < b.length ∧ (b.getD j zeroSp).b ≤ p := fun j hj => ⟨Nat.lt_of_lt_of_le hj (nx_le b p), nx_lt hj⟩
  have hA : (∃ s : Sp, (sps a).getD (nx a p) [] = s.cells ∧ s.cells.length = 2 ∧ ((nx a p : Int) < a.length) ∧ decide (s.b ≤ p) = false ∧ decide (s.a ≤ p) = hasB a p) ∨ ((¬ (nx a p : Int) < a.length) ∧ hasB a p = false) := by
    by_cases h : nx a p < a.length
    · refine .inl ⟨a.getD (nx a p) zeroSp, sps_at a _ h, rfl, by omega, decide_eq_false (by have := nx_at h; omega), ?_⟩
      rw [e1, decide_eq_true h, Bool.true_and]
    · refine .inr ⟨by omega, ?_⟩
      rw [e1, decide_eq_false h, Bool.false_and]
  have hB : (∃ s : Sp, (sps b).getD (nx b p) [] = s.cells ∧ s.cells.length = 2 ∧ ((nx b p : Int) < b.length) ∧ decide (s.b ≤ p) = false ∧ decide (s.a ≤ p) = hasB b p) ∨ ((¬ (nx b p : Int) < b.length) ∧ hasB b p = false) := by
    by_cases h : nx b p < b.length
    · refine .inl ⟨b.getD (nx b p) zeroSp, sps_at b _ h, rfl, by omega, decide_eq_false (by have := nx_at h; omega), ?_⟩
      rw [e2, decide_eq_true h, Bool.true_and]
    · refine .inr ⟨by omega, ?_⟩
      rw [e2, decide_eq_false h, Bool.false_and]
  have ila := nx_le a p
  have ilb := nx_le b p
  have eO := sps_snoc O ⟨p, q⟩
  have eO1 := sps_one O
  have eO2 := sps_len O
  have ean := sps_len a
  have ebn := sps_len b
  dsimp only at eO
  clear e1 e2 ha hb hf hg
  generalize nx a p = I at *
  generalize nx b p = J at *
  generalize hasB a p = X at *
  generalize hasB b p = Y at *
  unfold stArgs stHl
  refine fn_cc Tryz.F88 (Nat.le_of_ble_eq_true rfl) (bs := 7) ?_ ?_ ?_ ?_ ?_ ?_ ?_
  · simp
  · simp; omega
  · simp
  · simp
  · simp only [List.map_cons, List.map_nil, List.mem_cons, List.not_mem_nil, or_false]
    rintro p (rfl | rfl | rfl | rfl | rfl | rfl | rfl)
    · exact .box rfl fun j hj => .low (by match j, hj with | 0, _ => exact .same _ rfl)
    · exact .box rfl fun j hj => .low (by match j, hj with | 0, _ => exact .same _ rfl)
    · exact .box rfl fun j hj => .low (by match j, hj with | 0, _ => exact .same _ rfl)
    · exact .box rfl fun j hj => .low (by match j, hj with | 0, _ => exact .same _ rfl)
    · exact .box rfl fun j hj => by match j, hj with | 0, _ => exact .fn rfl fun j hj => by simp at hj
    · exact .box rfl fun j hj => by match j, hj with | 0, _ => exact .own rfl (by simp)
    · exact .row rfl
  · intro j hj
    match j, hj with
    | 0, _ => exact .low (.same _ rfl)
    | 1, _ => exact .low (.same _ rfl)
    | 2, _ => exact .bp rfl (by simp)
    | 3, _ => exact .bp rfl (by simp)
    | 4, _ => exact .bp rfl (by simp)
    | 5, _ => exact .bp rfl (by simp)
    | 6, _ => exact .bp rfl (by simp)
    | 7, _ => exact .bp rfl (by simp)
  · unfold Tryz.ac88 AR AM AO
    refine Awp.ghost (nx' := 7) (S' := stSt a b O g p q i k) (by
      unfold stSt stHl
      (apply Ghost.mkB []; (case hnb => rfl); (case hbx => omega); (case hinj => rfl); (case hV => (simp only [go_sem, *]) <;> (repeat' (first | refine And.intro ?_ ?_ | exact .bp rfl (by decide)))); (case hB => (simp only [go_sem, *]) <;> (repeat' (first | refine And.intro ?_ ?_ | exact ⟨_, rfl, BView.boxF rfl⟩ | exact ⟨_, rfl, BView.own1 rfl (by decide)⟩ | exact ⟨_, rfl, .rowE (by first | rfl | omega | (simp; done) | (rw [wrap_i64] <;> (try simp only [Int.natCast_add]) <;> omega) | (simp [*]; done))⟩ | exact ⟨_, rfl, BView.fn0⟩))))) ?_
    unfold stSt stHl
    repeat' (first
 | refine Awp.block ?_
 | refine Awp.seq ?_)
    refine Awp.loop (fun j : Nat => j ≤ I) 100 (fun j => stSt a b O g p q j k) (fun j => I - j) i hi ?_ ?_
    · unfold stSt stHl
      (apply Ghost.mkB []; (case hnb => rfl); (case hbx => omega); (case hinj => rfl); (case hV => (simp only [go_sem, *]) <;> (repeat' (first | refine And.intro ?_ ?_ | exact .bp rfl (by decide)))); (case hB => (simp only [go_sem, *]) <;> (repeat' (first | refine And.intro ?_ ?_ | exact ⟨_, rfl, BView.boxF rfl⟩ | exact ⟨_, rfl, BView.own1 rfl (by decide)⟩ | exact ⟨_, rfl, .rowE (by first | rfl | omega | (simp; done) | (rw [wrap_i64] <;> (try simp only [Int.natCast_add]) <;> omega) | (simp [*]; done))⟩ | exact ⟨_, rfl, BView.fn0⟩))))
    · intro j hj
      by_cases hjI : j < I
      · obtain ⟨h1, h2⟩ := la j hjI
        have h1' : (j : Int) < a.length := by omega
        have hw : IntKind.i64.wrap ((j : Int) + 1) = ((j + 1 : Nat) : Int) := by rw [wrap_i64 (by omega) (by omega)]; simp
        have h2' : decide ((a.getD j zeroSp).b ≤ p) = true := decide_eq_true h2
        have hat := sps_at a j h1
        have hz : ((a.getD j zeroSp).cells).length = 2 := rfl
        generalize a.getD j zeroSp = s at *
        clear h2 la lb hA hB hc
        unfold stSt stHl
        repeat' (first
 | (apply Awp.sreg; (case hn => (simp only [List.length_cons, List.length_nil, Nat.reduceAdd] <;> rfl)))
 | (refine st_nil ?_)
 | (apply st_a; (case hc => rfl); (case he => (simp only [go_sem, *] <;> rfl)); (case hu => (simp only [updL_nil, updL_cons] <;> rfl)); (case hp => first | trivial))
 | (apply st_m; (case hc => rfl); (case hg => (simp only [go_sem, *] <;> rfl)); (case he => (intro hQz; (try simp only [wantB_t, wantB_f, Bool.and_eq_true, Bool.not_eq_true', Bool.not_true, Bool.not_false, and_true, true_and] at hQz); simp only [go_sem, *] <;> rfl)); (case hp => (intro hQz; (try simp only [wantB_t, wantB_f, Bool.and_eq_true, Bool.not_eq_true', Bool.or_eq_false_iff, decide_eq_true_eq, decide_eq_false_iff_not, beq_iff_eq, beq_eq_false_iff_ne, bne_iff_ne, bne_eq_false_iff_eq, Int.not_lt, Int.not_le, Int.ofNat_lt, Int.ofNat_le] at hQz); first | trivial | omega)))
 | (apply Awp.reg; (case hn => (simp only [List.length_cons, List.length_nil, Nat.reduceAdd] <;> rfl)))
 | (refine Awp.skip ?_; try simp only [go_sem, *])
 | refine Awp.block ?_
 | (apply Awp.cond; (case hc => (simp only [go_sem, *] <;> rfl)); all_goals (intro hg; (try simp only [Bool.not_true, Bool.not_false, reduceCtorEq] at hg)))
 | refine Awp.seq ?_)
        refine ⟨j + 1, by omega, by omega, ?_⟩
        (apply Ghost.mkB []; (case hnb => rfl); (case hbx => omega); (case hinj => rfl); (case hV => (simp only [go_sem, *]) <;> (repeat' (first | refine And.intro ?_ ?_ | exact .bp rfl (by decide)))); (case hB => (simp only [go_sem, *]) <;> (repeat' (first | refine And.intro ?_ ?_ | exact ⟨_, rfl, BView.boxF rfl⟩ | exact ⟨_, rfl, BView.own1 rfl (by decide)⟩ | exact ⟨_, rfl, .rowE (by first | rfl | omega | (simp; done) | (rw [wrap_i64] <;> (try simp only [Int.natCast_add]) <;> omega) | (simp [*]; done))⟩ | exact ⟨_, rfl, BView.fn0⟩))))
      · have hjI' : j = I := by omega
        subst hjI'
        clear hjI la hj hi
        rcases hA with ⟨s, a1, a2, a3, a4, a5⟩ | ⟨a1, rfl⟩ <;> rcases hB with ⟨t, b1, b2, b3, b4, b5⟩ | ⟨b1, rfl⟩
        all_goals
          unfold stSt stHl
          repeat' (first
 | (apply Awp.sreg; (case hn => (simp only [List.length_cons, List.length_nil, Nat.reduceAdd] <;> rfl)))
 | (refine st_nil ?_)
 | (apply st_a; (case hc => rfl); (case he => (simp only [go_sem, *] <;> rfl)); (case hu => (simp only [updL_nil, updL_cons] <;> rfl)); (case hp => first | trivial))
 | (apply st_m; (case hc => rfl); (case hg => (simp only [go_sem, *] <;> rfl)); (case he => (intro hQz; (try simp only [wantB_t, wantB_f, Bool.and_eq_true, Bool.not_eq_true', Bool.not_true, Bool.not_false, and_true, true_and] at hQz); simp only [go_sem, *] <;> rfl)); (case hp => (intro hQz; (try simp only [wantB_t, wantB_f, Bool.and_eq_true, Bool.not_eq_true', Bool.or_eq_false_iff, decide_eq_true_eq, decide_eq_false_iff_not, beq_iff_eq, beq_eq_false_iff_ne, bne_iff_ne, bne_eq_false_iff_eq, Int.not_lt, Int.not_le, Int.ofNat_lt, Int.ofNat_le] at hQz); first | trivial | omega)))
 | (refine Awp.exit ?_; try simp only [go_sem, *])
 | refine Awp.block ?_
 | (apply Awp.cond; (case hc => (simp only [go_sem, *] <;> rfl)); all_goals (intro hg; (try simp only [Bool.not_true, Bool.not_false, reduceCtorEq] at hg)))
 | refine Awp.seq ?_)
          refine Awp.loop (fun l : Nat => l ≤ J) 200 (fun l => stSt a b O g p q j l) (fun l => J - l) k hk ?_ ?_
          · unfold stSt stHl
            (apply Ghost.mkB []; (case hnb => rfl); (case hbx => omega); (case hinj => rfl); (case hV => (simp only [go_sem, *]) <;> (repeat' (first | refine And.intro ?_ ?_ | exact .bp rfl (by decide)))); (case hB => (simp only [go_sem, *]) <;> (repeat' (first | refine And.intro ?_ ?_ | exact ⟨_, rfl, BView.boxF rfl⟩ | exact ⟨_, rfl, BView.own1 rfl (by decide)⟩ | exact ⟨_, rfl, .rowE (by first | rfl | omega | (simp; done) | (rw [wrap_i64] <;> (try simp only [Int.natCast_add]) <;> omega) | (simp [*]; done))⟩ | exact ⟨_, rfl, BView.fn0⟩))))
          · intro l hl
            by_cases hlJ : l < J
            · obtain ⟨h1, h2⟩ := lb l hlJ
              have h1' : (l : Int) < b.length := by omega
              have hw : IntKind.i64.wrap ((l : Int) + 1) = ((l + 1 : Nat) : Int) := by rw [wrap_i64 (by omega) (by omega)]; simp
              have h2' : decide ((b.getD l zeroSp).b ≤ p) = true := decide_eq_true h2
              have hat := sps_at b l h1
              have hz : ((b.getD l zeroSp).cells).length = 2 := rfl
              generalize b.getD l zeroSp = u at *
              clear h2 lb hc
              unfold stSt stHl
              repeat' (first
 | (apply Awp.sreg; (case hn => (simp only [List.length_cons, List.length_nil, Nat.reduceAdd] <;> rfl)))
 | (refine st_nil ?_)
 | (apply st_a; (case hc => rfl); (case he => (simp only [go_sem, *] <;> rfl)); (case hu => (simp only [updL_nil, updL_cons] <;> rfl)); (case hp => first | trivial))
 | (apply st_m; (case hc => rfl); (case hg => (simp only [go_sem, *] <;> rfl)); (case he => (intro hQz; (try simp only [wantB_t, wantB_f, Bool.and_eq_true, Bool.not_eq_true', Bool.not_true, Bool.not_false, and_true, true_and] at hQz); simp only [go_sem, *] <;> rfl)); (case hp => (intro hQz; (try simp only [wantB_t, wantB_f, Bool.and_eq_true, Bool.not_eq_true', Bool.or_eq_false_iff, decide_eq_true_eq, decide_eq_false_iff_not, beq_iff_eq, beq_eq_false_iff_ne, bne_iff_ne, bne_eq_false_iff_eq, Int.not_lt, Int.not_le, Int.ofNat_lt, Int.ofNat_le] at hQz); first | trivial | omega)))
 | (apply Awp.reg; (case hn => (simp only [List.length_cons, List.length_nil, Nat.reduceAdd] <;> rfl)))
 | (refine Awp.skip ?_; try simp only [go_sem, *])
 | refine Awp.block ?_
 | (apply Awp.cond; (case hc => (simp only [go_sem, *] <;> rfl)); all_goals (intro hg; (try simp only [Bool.not_true, Bool.not_false, reduceCtorEq] at hg)))
 | refine Awp.seq ?_)
              refine ⟨l + 1, by omega, by omega, ?_⟩
              (apply Ghost.mkB []; (case hnb => rfl); (case hbx => omega); (case hinj => rfl); (case hV => (simp only [go_sem, *]) <;> (repeat' (first | refine And.intro ?_ ?_ | exact .bp rfl (by decide)))); (case hB => (simp only [go_sem, *]) <;> (repeat' (first | refine And.intro ?_ ?_ | exact ⟨_, rfl, BView.boxF rfl⟩ | exact ⟨_, rfl, BView.own1 rfl (by decide)⟩ | exact ⟨_, rfl, .rowE (by first | rfl | omega | (simp; done) | (rw [wrap_i64] <;> (try simp only [Int.natCast_add]) <;> omega) | (simp [*]; done))⟩ | exact ⟨_, rfl, BView.fn0⟩))))
            · have hlJ' : l = J := by omega
              subst hlJ'
              clear hlJ lb hl hk
              unfold stSt stHl
              repeat' (first
 | (apply Awp.sreg; (case hn => (simp only [List.length_cons, List.length_nil, Nat.reduceAdd] <;> rfl)))
 | (apply Awp.sdraw; (case hn => (simp only [List.length_cons, List.length_nil, Nat.reduceAdd] <;> rfl)))
 | (refine st_nil ?_)
 | (apply st_a; (case hc => rfl); (case he => (simp only [go_sem, *] <;> rfl)); (case hu => (simp only [updL_nil, updL_cons] <;> rfl)); (case hp => first | trivial | (simp; done) | (simp; omega)))
 | (apply st_m; (case hc => rfl); (case hg => (simp only [go_sem, *] <;> rfl)); (case he => (intro hQz; (try simp only [wantB_t, wantB_f, Bool.and_eq_true, Bool.not_eq_true', Bool.not_true, Bool.not_false, and_true, true_and] at hQz); simp only [go_sem, *] <;> rfl)); (case hp => (intro hQz; (try simp only [wantB_t, wantB_f, Bool.and_eq_true, Bool.not_eq_true', Bool.or_eq_false_iff, decide_eq_true_eq, decide_eq_false_iff_not, beq_iff_eq, beq_eq_false_iff_ne, bne_iff_ne, bne_eq_false_iff_eq, Int.not_lt, Int.not_le, Int.ofNat_lt, Int.ofNat_le] at hQz); first | trivial | omega)))
 | (apply Awp.reg; (case hn => (simp only [List.length_cons, List.length_nil, Nat.reduceAdd] <;> rfl)))
 | (refine Awp.exit ?_; try simp only [go_sem, *])
 | (apply Awp.cond; (case hc => (simp only [go_sem, *] <;> rfl)); all_goals (intro hg; (try simp only [Bool.not_true, Bool.not_false, reduceCtorEq] at hg)))
 | refine Awp.seq ?_
 | (apply sl_a; (case hc => rfl); (case he => (simp only [go_sem, *] <;> rfl)); (case hu => (simp only [updL_nil, updL_cons] <;> rfl)); (case hl => (simp only [List.map_cons, List.map_nil] <;> rfl)); (case hp => first | trivial))
 | (apply sl_gn; (case hv => (simp only [go_sem, *] <;> rfl)); (case hbw => rfl))
 | (apply sl_ga; (case hb => rfl); (case hv => (simp only [go_sem, *] <;> rfl)); (case he => (simp only [go_sem, *] <;> rfl)); (case hu => (simp only [updL_nil, updL_cons] <;> rfl)); (case hl => (simp only [List.map_cons, List.map_nil] <;> rfl)); (case hp => first | trivial | omega))
 | (apply sl_c; (case hc => (simp only [go_sem, *] <;> rfl)); (case hl => (simp only [go_sem, *] <;> rfl)); (case hn => (simp only [go_sem, *] <;> rfl)); (case hp => first | exact hc | (have hXz := hc; simp only [go_sem, *] at hXz; exact hXz)); (case hd => first | exact .inl rfl | exact .inr (.v _) | exact .inr .any | exact .inr .nils); (case hm => first | decide | (simp; done)))
 | (refine sl_nil (And.intro (by first | exact drawOk_of (by decide +kernel) | (simp only [List.map_cons, List.map_nil]; exact drawOk_of (by decide +kernel)) | decide) ?_)))
              have hr : ∀ k, k < 7 → rn nm 246 k = k := fun k hk => by unfold rn; rw [if_neg (by omega)]
              have hrn : rn nm 246 nm = 246 := by unfold rn; rw [if_pos rfl]
              refine ⟨.inl rfl, 246, by omega, .tup rfl fun j hj => by simp at hj, fun k b' hk => ?_⟩
              have hnm0 : (0 : Nat) ≠ nm := by omega
              have hnm1 : (1 : Nat) ≠ nm := by omega
              have hnm2 : (2 : Nat) ≠ nm := by omega
              have hnm3 : (3 : Nat) ≠ nm := by omega
              have hnm4 : (4 : Nat) ≠ nm := by omega
              have hnm5 : (5 : Nat) ≠ nm := by omega
              have hnm6 : (6 : Nat) ≠ nm := by omega
              by_cases h4 : k = 4
              · subst h4
                have e1 : b' = .box [.v (.int .i64 j)] := by simpa [updL, upd, hnm4] using hk.symm
                subst e1
                rw [hr 4 (by omega)]
                exact ⟨_, rfl, .box rfl fun j hj => .low (by match j, hj with | 0, _ => exact .same _ rfl)⟩
              by_cases h0 : k = 0
              · subst h0
                have e1 : b' = .box [.sl (sps a)] := by simpa [updL, upd, hnm0] using hk.symm
                subst e1
                rw [hr 0 (by omega)]
                exact ⟨_, rfl, .box rfl fun j hj => .low (by match j, hj with | 0, _ => exact .same _ rfl)⟩
              by_cases h5 : k = 5
              · subst h5
                have e1 : b' = .box [.v (.int .i64 l)] := by simpa [updL, upd, hnm5] using hk.symm
                subst e1
                rw [hr 5 (by omega)]
                exact ⟨_, rfl, .box rfl fun j hj => .low (by match j, hj with | 0, _ => exact .same _ rfl)⟩
              by_cases h1 : k = 1
              · subst h1
                have e1 : b' = .box [.sl (sps b)] := by simpa [updL, upd, hnm1] using hk.symm
                subst e1
                rw [hr 1 (by omega)]
                exact ⟨_, rfl, .box rfl fun j hj => .low (by match j, hj with | 0, _ => exact .same _ rfl)⟩
              by_cases h2 : k = 2
              · subst h2
                have e1 : b' = .box [.fn g []] := by simpa [updL, upd, hnm2] using hk.symm
                subst e1
                rw [hr 2 (by omega)]
                exact ⟨_, rfl, .box rfl fun j hj => by match j, hj with | 0, _ => exact .fn rfl fun j hj => by simp at hj⟩
              by_cases h3 : k = 3
              · subst h3
                have e1 : b' = .box [.own nm] := by simpa [updL, upd, hnm3] using hk.symm
                subst e1
                rw [hr 3 (by omega)]
                exact ⟨_, rfl, .box rfl fun j hj => by match j, hj with | 0, _ => exact .own hrn (by simp)⟩
              by_cases h6 : k = 6
              · subst h6
                simp [updL, upd, hnm6] at hk
              by_cases hn : k = nm
              · subst hn
                have e1 : b' = .row (sps (O ++ [⟨p, q⟩])) 2 30 := by simpa [updL, upd, h3] using hk.symm
                subst e1
                rw [hrn]
                exact ⟨_, rfl, .row rfl⟩
              simp [updL, upd, listH, h0, h1, h2, h3, h4, h5, h6, hn] at hk
theorem ints_two (L : List Int) (x y : Int) : ints L ++ [[.v (.int .i64 x)], [.v (.int .i64 y)]] = ints (L ++ [x, y]) := by simp [ints]
theorem ints_oneL (L : List Int) : ∀ y ∈ ints L, y.length = 1 := by
  intro y hy; obtain ⟨s, _, rfl⟩ := List.mem_map.1 hy; rfl
theorem places_step (C : List Sp) (i : Nat) (h : i < C.length) : placesS (C.take (i + 1)) = placesS (C.take i) ++ [(C.getD i zeroSp).a, (C.getD i zeroSp).b] := by
  unfold placesS
  rw [take_snocP C i h, List.flatMap_append]
  simp
theorem places_len (C : List Sp) : (placesS C).length = 2 * C.length := by
  unfold placesS
  induction C with
  | nil => rfl
  | cons s C ih => simp only [List.flatMap_cons, List.length_append, ih, List.length_cons, List.length_nil]; omega
theorem segs_snoc (f : Int → Bool) (p q : Int) : ∀ l : List Int, segs f (l ++ [p, q]) = segs f (l ++ [p]) ++ (if f p = true then [⟨p, q⟩] else [])
  | [] => by simp [segs]
  | [x] => by simp [segs]
  | x :: y :: l => by
    have := segs_snoc f p q (y :: l)
    simp only [List.cons_append] at this ⊢
    rw [segs, segs, this, List.append_assoc]
theorem segs_len (f : Int → Bool) : ∀ l : List Int, (segs f l).length ≤ l.length
  | [] => by simp [segs]
  | [x] => by simp [segs]
  | x :: y :: l => by
    have := segs_len f (y :: l)
    rw [segs, List.length_append]
    have h : (if f x = true then [(⟨x, y⟩ : Sp)] else []).length ≤ 1 := by split <;> simp
    simp only [List.length_cons] at *
    omega
theorem take_two (P : List Int) (n : Nat) (h : n < P.length) (h1 : 1 ≤ n) : P.take (n + 1) = P.take (n - 1) ++ [P.getD (n - 1) 0, P.getD n 0] ∧ P.take n = P.take (n - 1) ++ [P.getD (n - 1) 0] := by
  have e1 : P.take (n + 1) = P.take n ++ [P.getD n 0] := by
    rw [List.take_add_one, List.getElem?_eq_getElem h]
    simp [List.getD_eq_getElem?_getD, h]
  obtain ⟨m, rfl⟩ : ∃ m, n = m + 1 := ⟨n - 1, by omega⟩
  have e2 : P.take (m + 1) = P.take m ++ [P.getD m 0] := by
    rw [List.take_add_one, List.getElem?_eq_getElem (by omega)]
    simp [List.getD_eq_getElem?_getD, show m < P.length by omega]
  refine ⟨?_, by simpa using e2⟩
  rw [e1, e2]
  simp
def sw0 (ca cb : List Sp) (g : Nat) : AState := mkS [(3, .bp 0 0), (4, .bp 1 0), (5, .bp 2 0)] [(0, .box [.sl (sps ca)]), (1, .box [.sl (sps cb)]), (2, .box [.fn g []])]
def sw1 (ca cb : List Sp) (g : Nat) (C : List Sp) (L : List Int) (i : Nat) : AState := mkS [(3, .bp 0 0), (4, .bp 1 0), (5, .bp 2 0), (7, .own 3), (22, .own 4), (23, .v (.int .i64 C.length)), (24, .v (.int .i64 i))]
  [(0, .box [.sl (sps ca)]), (1, .box [.sl (sps cb)]), (2, .box [.fn g []]), (3, .row (ints L) 1 3), (4, .row (sps C) 2 30)]
def sw2 (ca cb : List Sp) (g : Nat) (O : List Sp) (P : List Int) (q : Nat × Nat × Nat) : AState := mkS [(7, .own 7), (10, .bp 3 0), (13, .fn 88 [.bp 4 0, .bp 0 0, .bp 5 0, .bp 1 0, .bp 2 0, .bp 3 0]), (14, .v (.int .i64 q.1))]
  [(0, .box [.sl (sps ca)]), (1, .box [.sl (sps cb)]), (2, .box [.fn g []]), (3, .box [.own 6]), (4, .box [.v (.int .i64 q.2.1)]), (5, .box [.v (.int .i64 q.2.2)]), (6, .row (sps O) 2 30), (7, .row (ints P) 1 3)]
theorem sweep_ok (g : Nat) (f : Bool → Bool → Bool) (hmem : ∀ x y, Pure Tryz.prog g [.v (.bool x), .v (.bool y)] (.v (.bool (f x y)))) (hff : f false false = false) (a b R : List Sp) (hal : a.length < 2000) (hbl : b.length < 2000)
    (hR : ∀ n, hasS R n ↔ f (hasB a n) (hasB b n) = true) : PureOwn Tryz.prog 57 [.sl (sps a), .sl (sps b), .fn g []] (sps (canon R)) 2 30 := by
  have c0 := normal_ok a (by omega)
  have c1 := normal_ok b (by omega)
  have hca := (canon_is a).1
  have hcb := (canon_is b).1
  have hla := canon_len a
  have hlb := canon_len b
  have hsa : ∀ n, hasB (canon a) n = hasB a n := fun n => by rw [Bool.eq_iff_iff, hasB_iff, hasB_iff, (canon_is a).2]
  have hsb : ∀ n, hasB (canon b) n = hasB b n := fun n => by rw [Bool.eq_iff_iff, hasB_iff, hasB_iff, (canon_is b).2]
  have hR' : ∀ n, hasS R n ↔ f (hasB (canon a) n) (hasB (canon b) n) = true := fun n => by rw [hsa, hsb]; exact hR n
  clear hR hsa hsb
  generalize canon a = ca at *
  generalize canon b = cb at *
  have hP := compact_sorted (sortZ (placesS (ca ++ cb))) (sortZ_asc _)
  have hPm : ∀ p, p ∈ Lib.compact (sortI (placesS (ca ++ cb))) ↔ p ∈ placesS (ca ++ cb) := fun p => (hP.2 p).trans (mem_sortZ _ _)
  have hPp : (Lib.compact (sortI (placesS (ca ++ cb)))).Pairwise (· < ·) := hP.1
  have hPl : (Lib.compact (sortI (placesS (ca ++ cb)))).length ≤ 8000 := by
    refine Nat.le_trans (compact_len _) ?_
    rw [sortI_len, places_len]; simp; omega
  have hcan : canon R = canon (segs (fun p => f (hasB ca p) (hasB cb p)) (Lib.compact (sortI (placesS (ca ++ cb))))) := canon_same fun n => (hR' n).trans (sweep_has hff hPp hPm n).symm
  rw [hcan]
  clear hR' hcan hP hPm
  have c2 := concat2 ca cb (by omega) (by omega)
  have hCl : (ca ++ cb).length < 5000 := by simp; omega
  have cs := fun (l : List Int) (h : l.length < 1000000) b nm => sort_cc l b nm 3 h
  have cc := fun (l : List Int) (h : l.length < 1000000) b nm hb => compact_cc l b nm 3 hb h
  have hpl := places_len (ca ++ cb)
  have hsl := sortI_len (placesS (ca ++ cb))
  have cs1 := cs (placesS (ca ++ cb)) (by omega)
  have cc1 := cc (sortI (placesS (ca ++ cb))) (by omega)
  obtain ⟨P, hPe⟩ : ∃ P, Lib.compact (sortI (placesS (ca ++ cb))) = P := ⟨_, rfl⟩
  rw [hPe] at cc1 hPp hPl ⊢
  clear hPe cs cc hpl hsl
  refine fn_own Tryz.F57 (Nat.le_of_ble_eq_true rfl) ?_; unfold Tryz.ac57 AR AM AO
  (first | (apply Awp.sreg; (case hn => (simp only [List.length_cons, List.length_nil, Nat.reduceAdd] <;> rfl))) | (apply Awp.reg; (case hn => (simp only [List.length_cons, List.length_nil, Nat.reduceAdd] <;> rfl)))); repeat' (first
 | (refine st_nil ?_)
 | (apply st_a; (case hc => rfl); (case he => (simp only [go_sem, *] <;> rfl)); (case hu => (simp only [updL_nil, updL_cons] <;> rfl)); (case hp => first | trivial))
 | (apply st_m; (case hc => rfl); (case hg => (simp only [go_sem, *] <;> rfl)); (case he => (intro hQz; (try simp only [wantB_t, wantB_f, Bool.and_eq_true, Bool.not_eq_true', Bool.not_true, Bool.not_false, and_true, true_and] at hQz); simp only [go_sem, *] <;> rfl)); (case hp => (intro hQz; (try simp only [wantB_t, wantB_f, Bool.and_eq_true, Bool.not_eq_true', Bool.or_eq_false_iff, decide_eq_true_eq, decide_eq_false_iff_not, beq_iff_eq, beq_eq_false_iff_ne, bne_iff_ne, bne_eq_false_iff_eq, Int.not_lt, Int.not_le, Int.ofNat_lt, Int.ofNat_le] at hQz); first | skip; done)))
 | (apply st_sx; (case he => (simp only [go_sem, *] <;> rfl)); (case hu => (simp only [updL_nil, updL_cons] <;> rfl)); (case hp => first | skip; done))
 | (apply st_gu; (case hv => (simp only [go_sem, *] <;> rfl)))
 | (apply st_g; (case hv => (simp only [go_sem, *] <;> rfl)); all_goals (intro hg; (try simp only [Bool.not_true, Bool.not_false, reduceCtorEq] at hg); (try have hg' := hg); (try simp only [decide_eq_true_eq, decide_eq_false_iff_not, Bool.and_eq_true, Bool.or_eq_false_iff, bne_iff_ne, bne_eq_false_iff_eq, beq_iff_eq, beq_eq_false_iff_ne, Int.not_lt, Int.not_le, Int.ofNat_lt, Int.ofNat_le, Int.natCast_inj] at hg'))))
  (first | (apply Awp.sdraw; (case hn => (simp only [List.length_cons, List.length_nil, Nat.reduceAdd] <;> rfl))) | (refine Awp.draw ?_)); repeat' (first
 | (refine Awp.draw ?_)
 | (apply sl_a; (case hc => rfl); (case he => (simp only [go_sem, *] <;> rfl)); (case hu => (simp only [updL_nil, updL_cons] <;> rfl)); (case hl => (simp only [List.map_cons, List.map_nil] <;> rfl)); (case hp => first | trivial))
 | (apply sl_gu; (case hv => (simp only [go_sem, *] <;> rfl)))
 | (apply sl_gn; (case hv => (simp only [go_sem, *] <;> rfl)); (case hbw => rfl))
 | (apply sl_ga; (case hb => rfl); (case hv => (simp only [go_sem, *] <;> rfl)); (case he => (simp only [go_sem, *] <;> rfl)); (case hu => (simp only [updL_nil, updL_cons] <;> rfl)); (case hl => (simp only [List.map_cons, List.map_nil] <;> rfl)); (case hp => first | skip; done))
 | (apply sl_co; (case hc => (simp only [go_sem, *] <;> rfl)); (case hl => (simp only [go_sem, *] <;> rfl)); (case hn => (simp only [go_sem, *] <;> rfl)); (case hp => first | exact c0 | (have hXz := c0; simp only [go_sem, *] at hXz; exact hXz)))
 | (apply sl_cod; (case hc => (simp only [go_sem, *] <;> rfl)); (case hl => (simp only [go_sem, *] <;> rfl)); (case hn => (simp only [go_sem, *] <;> rfl)); (case hp => first | exact c0 | (have hXz := c0; simp only [go_sem, *] at hXz; exact hXz)); (case hd => first | exact sps_dry _ | exact ints_dry _ | (repeat' (first | exact Dry.v _ | exact Dry.any | exact Dry.nils | exact Dry.slE | refine Dry.agg ?_ | refine Dry.tup ?_ | (refine List.forall_mem_cons.2 (And.intro ?_ ?_)) | (intro cQ hQ; cases hQ; done)))); (case hm => first | decide | (simp; done)))
 | (apply sl_cog; (case hop => rfl); (case hv => (simp only [go_sem, *] <;> rfl)); (case hc => (simp only [go_sem, *] <;> rfl)); (case hl => (simp only [go_sem, *] <;> rfl)); (case hn => (simp only [go_sem, *] <;> rfl)); (case hp => first | exact c0 | (have hXz := c0; simp only [go_sem, *] at hXz; exact hXz)); (case hd => first | exact sps_dry _ | exact ints_dry _ | (repeat' (first | exact Dry.v _ | exact Dry.any | exact Dry.nils | exact Dry.slE | refine Dry.agg ?_ | refine Dry.tup ?_ | (refine List.forall_mem_cons.2 (And.intro ?_ ?_)) | (intro cQ hQ; cases hQ; done)))); (case hm => first | decide | (simp; done)))
 | (apply sl_co; (case hc => (simp only [go_sem, *] <;> rfl)); (case hl => (simp only [go_sem, *] <;> rfl)); (case hn => (simp only [go_sem, *] <;> rfl)); (case hp => first | exact c1 | (have hXz := c1; simp only [go_sem, *] at hXz; exact hXz)))
 | (apply sl_cod; (case hc => (simp only [go_sem, *] <;> rfl)); (case hl => (simp only [go_sem, *] <;> rfl)); (case hn => (simp only [go_sem, *] <;> rfl)); (case hp => first | exact c1 | (have hXz := c1; simp only [go_sem, *] at hXz; exact hXz)); (case hd => first | exact sps_dry _ | exact ints_dry _ | (repeat' (first | exact Dry.v _ | exact Dry.any | exact Dry.nils | exact Dry.slE | refine Dry.agg ?_ | refine Dry.tup ?_ | (refine List.forall_mem_cons.2 (And.intro ?_ ?_)) | (intro cQ hQ; cases hQ; done)))); (case hm => first | decide | (simp; done)))
 | (apply sl_cog; (case hop => rfl); (case hv => (simp only [go_sem, *] <;> rfl)); (case hc => (simp only [go_sem, *] <;> rfl)); (case hl => (simp only [go_sem, *] <;> rfl)); (case hn => (simp only [go_sem, *] <;> rfl)); (case hp => first | exact c1 | (have hXz := c1; simp only [go_sem, *] at hXz; exact hXz)); (case hd => first | exact sps_dry _ | exact ints_dry _ | (repeat' (first | exact Dry.v _ | exact Dry.any | exact Dry.nils | exact Dry.slE | refine Dry.agg ?_ | refine Dry.tup ?_ | (refine List.forall_mem_cons.2 (And.intro ?_ ?_)) | (intro cQ hQ; cases hQ; done)))); (case hm => first | decide | (simp; done)))
 | (apply sl_case; (case hv => (simp only [go_sem, *] <;> rfl)); all_goals (intro hg; (try simp only [Bool.not_true, Bool.not_false, reduceCtorEq] at hg); (try have hg' := hg); (try simp only [decide_eq_true_eq, decide_eq_false_iff_not, Bool.and_eq_true, Bool.or_eq_false_iff, bne_iff_ne, bne_eq_false_iff_eq, beq_iff_eq, beq_eq_false_iff_ne, Int.not_lt, Int.not_le, Int.ofNat_lt, Int.ofNat_le, Int.natCast_inj] at hg')))
 | (refine sl_nil (And.intro (by first | exact drawOk_of (by decide +kernel) | (simp only [List.map_cons, List.map_nil]; exact drawOk_of (by decide +kernel)) | decide) ?_)))
  refine Awp.ghost (nx' := 20) (S' := sw0 ca cb g) (by
    unfold sw0
    (apply Ghost.mk [] [5, 7]; (case hdead => rfl); (case hinj => rfl); (case hV => (simp only [go_sem, *]) <;> (repeat' (first | refine And.intro ?_ ?_ | exact .bp rfl (by decide)))); (case hB => (simp only [go_sem, *]) <;> (repeat' (first | refine And.intro ?_ ?_ | exact ⟨_, rfl, BView.fn0⟩ | exact ⟨_, rfl, BView.lowO (by first | rfl | (simp only [go_sem, *] <;> rfl)) (by first | rfl | omega | (simp; done) | (rw [wrap_i64] <;> (try simp only [Int.natCast_add]) <;> omega) | (simp [*]; done))⟩))))) ?_
  clear c0 c1
  obtain ⟨C, hC⟩ : ∃ C, ca ++ cb = C := ⟨_, rfl⟩
  rw [hC] at c2 hCl cs1 cc1
  clear hC
  unfold sw0
  repeat' (first
 | (apply Awp.sreg; (case hn => (simp only [List.length_cons, List.length_nil, Nat.reduceAdd] <;> rfl)))
 | (refine st_nil ?_)
 | (apply st_a; (case hc => rfl); (case he => (simp only [go_sem, *] <;> rfl)); (case hu => (simp only [updL_nil, updL_cons] <;> rfl)); (case hp => first | trivial | (simp; done)))
 | (apply st_cod; (case hc => (simp only [go_sem, *] <;> rfl)); (case hl => (simp only [go_sem, *] <;> rfl)); (case hn => (simp only [go_sem, *] <;> rfl)); (case hp => first | exact c2 | (have hXz := c2; simp only [go_sem, *] at hXz; exact hXz)); (case hd => first | exact sps_dry _ | exact ints_dry _ | (repeat' (first | exact Dry.v _ | exact Dry.any | exact Dry.nils | exact Dry.slE | refine Dry.agg ?_ | refine Dry.tup ?_ | (refine List.forall_mem_cons.2 (And.intro ?_ ?_)) | (intro cQ hQ; cases hQ; done)))); (case hm => first | decide | (simp; done)))
 | refine Awp.block ?_
 | refine Awp.seq ?_)
  clear c2
  refine Awp.loop (fun i : Nat => i ≤ C.length) 100 (fun i => sw1 ca cb g C (placesS (C.take i)) i) (fun i => C.length - i) 0 (by omega) ?_ ?_
  · refine Ghost.trans (Ghost.name 7 1 3 rfl (by decide)) ?_
    have e1 : placesS (C.take 0) = [] := rfl
    rw [e1]
    unfold sw1
    (apply Ghost.mk [(3, 27), (4, 24)] []; (case hdead => rfl); (case hinj => rfl); (case hV => (simp only [go_sem, *]) <;> (repeat' (first | refine And.intro ?_ ?_ | exact View.int (by first | rfl | omega | (simp; done) | (rw [wrap_i64] <;> (try simp only [Int.natCast_add]) <;> omega) | (simp [*]; done)) | exact .bp rfl (by decide) | exact .own rfl (by decide)))); (case hB => (simp only [go_sem, *]) <;> (repeat' (first | refine And.intro ?_ ?_ | exact ⟨_, rfl, BView.boxF rfl⟩ | exact ⟨_, rfl, .rowE (by first | rfl | omega | (simp; done) | (rw [wrap_i64] <;> (try simp only [Int.natCast_add]) <;> omega) | (simp [*]; done))⟩ | exact ⟨_, rfl, BView.fn0⟩))))
  · intro i hi
    have hCn := sps_len C
    by_cases hlt : i < C.length
    · have hlt' : (i : Int) < C.length := by omega
      have hat := sps_at C i hlt
      have hz : ((C.getD i zeroSp).cells).length = 2 := rfl
      have hst : Kept _ := places_step C i hlt
      have hLl : (placesS (C.take i)).length ≤ 2 * i := by rw [places_len]; simp; omega
      generalize placesS (C.take i) = L at *
      generalize C.getD i zeroSp = s at *
      have e2 := ints_two L s.a s.b
      have e3 := ints_oneL L
      have e4 := ints_len L
      clear cs1 cc1
      unfold sw1
      repeat' (first
 | (apply Awp.sreg; (case hn => (simp only [List.length_cons, List.length_nil, Nat.reduceAdd] <;> rfl)))
 | (refine st_nil ?_)
 | (apply st_a; (case hc => rfl); (case he => (simp only [go_sem, *] <;> rfl)); (case hu => (simp only [updL_nil, updL_cons] <;> rfl)); (case hp => first | trivial | omega | (simp; done) | (simp; omega)))
 | (apply Awp.reg; (case hn => (simp only [List.length_cons, List.length_nil, Nat.reduceAdd] <;> rfl)))
 | (refine Awp.skip ?_; try simp only [go_sem, *])
 | refine Awp.block ?_
 | (apply Awp.cond; (case hc => (simp only [go_sem, *] <;> rfl)); all_goals (intro hg; (try simp only [Bool.not_true, Bool.not_false, reduceCtorEq] at hg)))
 | refine Awp.seq ?_)
      refine ⟨i + 1, by omega, by omega, ?_⟩
      rw [hst.out]
      (apply Ghost.mk [(3, 111)] []; (case hdead => rfl); (case hinj => rfl); (case hV => (simp only [go_sem, *]) <;> (repeat' (first | refine And.intro ?_ ?_ | exact View.int (by first | rfl | omega | (simp; done) | (rw [wrap_i64] <;> (try simp only [Int.natCast_add]) <;> omega) | (simp [*]; done)) | exact .bp rfl (by decide) | exact .own rfl (by decide)))); (case hB => (simp only [go_sem, *]) <;> (repeat' (first | refine And.intro ?_ ?_ | exact ⟨_, rfl, BView.boxF rfl⟩ | exact ⟨_, rfl, .rowE (by first | rfl | omega | (simp; done) | (rw [wrap_i64] <;> (try simp only [Int.natCast_add]) <;> omega) | (simp [*]; done))⟩ | exact ⟨_, rfl, BView.fn0⟩))))
    · have hlt' : ¬ (i : Int) < C.length := by omega
      have e1 : C.take i = C := List.take_of_length_le (by omega)
      rw [e1]
      clear e1 hlt
      unfold sw1
      repeat' (first
 | (apply Awp.sreg; (case hn => (simp only [List.length_cons, List.length_nil, Nat.reduceAdd] <;> rfl)))
 | (refine st_nil ?_)
 | (apply st_a; (case hc => rfl); (case he => (simp only [go_sem, *] <;> rfl)); (case hu => (simp only [updL_nil, updL_cons] <;> rfl)); (case hp => first | trivial))
 | (apply st_cc; (case hc => (simp only [go_sem, *] <;> rfl)); (case hcc => exact (cs1 _ _)); (case hh => (first | (simp only [List.mem_singleton, forall_eq]; first | (simp only [go_sem, *] <;> rfl) | (simp only [go_sem, *]; simp [ints])) | (intro p hp; cases hp; done) | (intro p hp; simp only [List.mem_cons, List.not_mem_nil, or_false] at hp; rcases hp with rfl | rfl | rfl | rfl | rfl | rfl | rfl <;> (simp only [go_sem, *] <;> rfl)) | (intro p hp; simp only [List.mem_cons, List.not_mem_nil, or_false] at hp; rcases hp with rfl | rfl | rfl | rfl <;> (simp only [go_sem, *] <;> rfl)))); (case hu => (first | (simp; done) | decide)); (case hm => (first | decide | (simp; done))); (case hw => (simp only [updL_nil, updL_cons] <;> rfl)))
 | (apply st_cc; (case hc => (simp only [go_sem, *] <;> rfl)); (case hcc => exact (cc1 _ _ (by decide))); (case hh => (first | (simp only [List.mem_singleton, forall_eq]; first | (simp only [go_sem, *] <;> rfl) | (simp only [go_sem, *]; simp [ints])) | (intro p hp; cases hp; done) | (intro p hp; simp only [List.mem_cons, List.not_mem_nil, or_false] at hp; rcases hp with rfl | rfl | rfl | rfl | rfl | rfl | rfl <;> (simp only [go_sem, *] <;> rfl)) | (intro p hp; simp only [List.mem_cons, List.not_mem_nil, or_false] at hp; rcases hp with rfl | rfl | rfl | rfl <;> (simp only [go_sem, *] <;> rfl)))); (case hu => (first | (simp; done) | decide)); (case hm => (first | decide | (simp; done))); (case hw => (simp only [updL_nil, updL_cons] <;> rfl)))
 | (refine Awp.exit ?_; try simp only [go_sem, *])
 | refine Awp.block ?_
 | (apply Awp.cond; (case hc => (simp only [go_sem, *] <;> rfl)); all_goals (intro hg; (try simp only [Bool.not_true, Bool.not_false, reduceCtorEq] at hg)))
 | refine Awp.seq ?_)
      clear cs1 cc1
      refine Awp.loop (fun q : Nat × Nat × Nat => 1 ≤ q.1 ∧ (q.1 = 1 ∨ q.1 ≤ P.length) ∧ (q.1 < P.length → q.2.1 ≤ nx ca (P.getD (q.1 - 1) 0) ∧ q.2.2 ≤ nx cb (P.getD (q.1 - 1) 0))) 200
        (fun q => sw2 ca cb g (segs (fun p => f (hasB ca p) (hasB cb p)) (P.take q.1)) P q) (fun q => P.length - q.1) (1, 0, 0) ⟨Nat.le_refl _, .inl rfl, fun _ => ⟨Nat.zero_le _, Nat.zero_le _⟩⟩ ?_ ?_
      · refine Ghost.trans (Ghost.nameBox 106 2 30 rfl (by decide)) ?_
        have e1 : segs (fun p => f (hasB ca p) (hasB cb p)) (P.take 1) = [] := by
          cases P with
          | nil => rfl
          | cons p P => rfl
        unfold sw2
        dsimp only
        rw [e1]
        (apply Ghost.mk [(3, 106), (4, 107), (5, 108), (6, 114), (7, 104)] []; (case hdead => rfl); (case hinj => rfl); (case hV => (simp only [go_sem, *]) <;> (repeat' (first | refine And.intro ?_ ?_ | exact View.int (by first | rfl | omega | (simp; done) | (rw [wrap_i64] <;> (try simp only [Int.natCast_add]) <;> omega) | (simp [*]; done)) | exact .bp rfl (by decide) | exact .own rfl (by decide) | exact View.fn6 rfl rfl rfl rfl rfl rfl (by decide)))); (case hB => (simp only [go_sem, *]) <;> (repeat' (first | refine And.intro ?_ ?_ | exact ⟨_, rfl, BView.boxF rfl⟩ | exact ⟨_, rfl, BView.own1 rfl (by decide)⟩ | exact ⟨_, rfl, .rowE (by first | rfl | omega | (simp; done) | (rw [wrap_i64] <;> (try simp only [Int.natCast_add]) <;> omega) | (simp [*]; done))⟩ | exact ⟨_, rfl, BView.fn0⟩))))
      · rintro ⟨n, i, k⟩ ⟨hn1, hn2, hik⟩
        dsimp only at hn1 hn2 hik
        have hPn := ints_len P
        by_cases hlt : n < P.length
        · obtain ⟨hi', hk'⟩ := hik hlt
          obtain ⟨t1, t2⟩ := take_two P n hlt hn1
          have hat1 := ints_at P (n - 1) (by omega)
          have hat2 := ints_at P n hlt
          have hpq : P.getD (n - 1) 0 < P.getD n 0 := by
            have := List.pairwise_iff_getElem.1 hPp (n - 1) n (by omega) hlt (by omega)
            simpa [List.getD_eq_getElem?_getD, hlt, show n - 1 < P.length by omega] using this
          have hlt' : (n : Int) < P.length := by omega
          have hlt1 : ((n - 1 : Nat) : Int) < P.length := by omega
          have hw1 : IntKind.i64.wrap ((n : Int) - 1) = ((n - 1 : Nat) : Int) := by rw [wrap_i64 (by omega) (by omega)]; omega
          have hw2 : IntKind.i64.wrap ((n : Int) + 1) = ((n + 1 : Nat) : Int) := by rw [wrap_i64 (by omega) (by omega)]; simp
          have hO : (segs (fun p => f (hasB ca p) (hasB cb p)) (P.take n)).length < 100000 := by
            have := segs_len (fun p => f (hasB ca p) (hasB cb p)) (P.take n)
            simp at this; omega
          have hs := segs_snoc (fun p => f (hasB ca p) (hasB cb p)) (P.getD (n - 1) 0) (P.getD n 0) (P.take (n - 1))
          rw [← t1, ← t2] at hs
          have mn : ∀ c : List Sp, nx c (P.getD (n - 1) 0) ≤ nx c (P.getD n 0) := fun c => nx_mono (by omega)
          have ma := mn ca
          have mb := mn cb
          have hnx : (n + 1) - 1 = n := by omega
          generalize segs (fun p => f (hasB ca p) (hasB cb p)) (P.take n) = O at *
          obtain ⟨p, hp⟩ : ∃ p, P.getD (n - 1) 0 = p := ⟨_, rfl⟩
          obtain ⟨q, hq⟩ : ∃ q, P.getD n 0 = q := ⟨_, rfl⟩
          rw [hp] at hat1 hs ma mb hi' hk'
          have hq' : Kept (P.getD n 0 = q) := hq
          rw [hq] at hat2 hs ma mb
          clear hq hp mn hpq t1 t2 hik hPp
          cases hF : f (hasB ca p) (hasB cb p)
          · have hs' : Kept (segs (fun p => f (hasB ca p) (hasB cb p)) (P.take (n + 1)) = O) := by unfold Kept; rw [hs, hF]; simp
            have cst := fun nm h => step_no ca cb O g f hmem hca hcb (by omega) (by omega) hO p q i k nm hi' hk' h hF
            unfold stArgs stHl at cst
            generalize nx ca p = I at *
            generalize nx cb p = J at *
            clear hs hF hmem hca hcb
            unfold sw2
            dsimp only
            repeat' (first
 | (apply Awp.sreg; (case hn => (simp only [List.length_cons, List.length_nil, Nat.reduceAdd] <;> rfl)))
 | (refine st_nil ?_)
 | (apply st_a; (case hc => rfl); (case he => (simp only [go_sem, *] <;> rfl)); (case hu => (simp only [updL_nil, updL_cons] <;> rfl)); (case hp => first | trivial))
 | (apply Awp.reg; (case hn => (simp only [List.length_cons, List.length_nil, Nat.reduceAdd] <;> rfl)))
 | (refine Awp.skip ?_; try simp only [go_sem, *])
 | refine Awp.block ?_
 | (apply Awp.cond; (case hc => (simp only [go_sem, *] <;> rfl)); all_goals (intro hg; (try simp only [Bool.not_true, Bool.not_false, reduceCtorEq] at hg)))
 | refine Awp.seq ?_
 | (refine Awp.draw ?_)
 | (apply sl_a; (case hc => rfl); (case he => (simp only [go_sem, *] <;> rfl)); (case hu => (simp only [updL_nil, updL_cons] <;> rfl)); (case hl => (simp only [List.map_cons, List.map_nil] <;> rfl)); (case hp => first | trivial | omega))
 | (apply sl_cc; (case hc => (simp only [go_sem, *] <;> rfl)); (case hcc => exact (cst _ (by omega))); (case hh => (first | (simp only [List.mem_singleton, forall_eq]; first | (simp only [go_sem, *] <;> rfl) | (simp only [go_sem, *]; simp [ints])) | (intro p hp; cases hp; done) | (intro p hp; simp only [List.mem_cons, List.not_mem_nil, or_false] at hp; rcases hp with rfl | rfl | rfl | rfl | rfl | rfl | rfl <;> (simp only [go_sem, *] <;> rfl)) | (intro p hp; simp only [List.mem_cons, List.not_mem_nil, or_false] at hp; rcases hp with rfl | rfl | rfl | rfl <;> (simp only [go_sem, *] <;> rfl)))); (case hu => (first | (simp; done) | decide)); (case hm => (first | decide | (simp; done))); (case hw => (simp only [updL_nil, updL_cons] <;> rfl)))
 | (refine sl_nil (And.intro (by first | exact drawOk_of (by decide +kernel) | (simp only [List.map_cons, List.map_nil]; exact drawOk_of (by decide +kernel)) | decide) ?_)))
            refine ⟨(n + 1, I, J), ⟨by dsimp only; omega, .inr (by dsimp only; omega), fun _ => ?_⟩, by dsimp only; omega, ?_⟩
            · dsimp only
              rw [hnx, hq'.out]
              exact ⟨ma, mb⟩
            dsimp only
            rw [hs'.out]
            (apply Ghost.mk [] []; (case hdead => rfl); (case hinj => rfl); (case hV => (simp only [go_sem, *]) <;> (repeat' (first | refine And.intro ?_ ?_ | exact .bp rfl (by decide) | exact .own rfl (by decide) | exact View.fn6 rfl rfl rfl rfl rfl rfl (by decide)))); (case hB => (simp only [go_sem, *]) <;> (repeat' (first | refine And.intro ?_ ?_ | exact ⟨_, rfl, BView.boxF rfl⟩ | exact ⟨_, rfl, BView.own1 rfl (by decide)⟩ | exact ⟨_, rfl, .rowE (by first | rfl | omega | (simp; done) | (rw [wrap_i64] <;> (try simp only [Int.natCast_add]) <;> omega) | (simp [*]; done))⟩ | exact ⟨_, rfl, BView.fn0⟩))))
          · have hs' : Kept (segs (fun p => f (hasB ca p) (hasB cb p)) (P.take (n + 1)) = O ++ [⟨p, q⟩]) := by unfold Kept; rw [hs, hF]; simp
            have cst := fun nm h => step_yes ca cb O g f hmem hca hcb (by omega) (by omega) hO p q i k nm hi' hk' h hF
            unfold stArgs stHl at cst
            generalize nx ca p = I at *
            generalize nx cb p = J at *
            clear hs hF hmem hca hcb
            unfold sw2
            dsimp only
            repeat' (first
 | (apply Awp.sreg; (case hn => (simp only [List.length_cons, List.length_nil, Nat.reduceAdd] <;> rfl)))
 | (refine st_nil ?_)
 | (apply st_a; (case hc => rfl); (case he => (simp only [go_sem, *] <;> rfl)); (case hu => (simp only [updL_nil, updL_cons] <;> rfl)); (case hp => first | trivial))
 | (apply Awp.reg; (case hn => (simp only [List.length_cons, List.length_nil, Nat.reduceAdd] <;> rfl)))
 | (refine Awp.skip ?_; try simp only [go_sem, *])
 | refine Awp.block ?_
 | (apply Awp.cond; (case hc => (simp only [go_sem, *] <;> rfl)); all_goals (intro hg; (try simp only [Bool.not_true, Bool.not_false, reduceCtorEq] at hg)))
 | refine Awp.seq ?_
 | (refine Awp.draw ?_)
 | (apply sl_a; (case hc => rfl); (case he => (simp only [go_sem, *] <;> rfl)); (case hu => (simp only [updL_nil, updL_cons] <;> rfl)); (case hl => (simp only [List.map_cons, List.map_nil] <;> rfl)); (case hp => first | trivial | omega))
 | (apply sl_cc; (case hc => (simp only [go_sem, *] <;> rfl)); (case hcc => exact (cst _ (by omega))); (case hh => (first | (simp only [List.mem_singleton, forall_eq]; first | (simp only [go_sem, *] <;> rfl) | (simp only [go_sem, *]; simp [ints])) | (intro p hp; cases hp; done) | (intro p hp; simp only [List.mem_cons, List.not_mem_nil, or_false] at hp; rcases hp with rfl | rfl | rfl | rfl | rfl | rfl | rfl <;> (simp only [go_sem, *] <;> rfl)) | (intro p hp; simp only [List.mem_cons, List.not_mem_nil, or_false] at hp; rcases hp with rfl | rfl | rfl | rfl <;> (simp only [go_sem, *] <;> rfl)))); (case hu => (first | (simp; done) | decide)); (case hm => (first | decide | (simp; done))); (case hw => (simp only [updL_nil, updL_cons] <;> rfl)))
 | (refine sl_nil (And.intro (by first | exact drawOk_of (by decide +kernel) | (simp only [List.map_cons, List.map_nil]; exact drawOk_of (by decide +kernel)) | decide) ?_)))
            refine ⟨(n + 1, I, J), ⟨by dsimp only; omega, .inr (by dsimp only; omega), fun _ => ?_⟩, by dsimp only; omega, ?_⟩
            · dsimp only
              rw [hnx, hq'.out]
              exact ⟨ma, mb⟩
            dsimp only
            rw [hs'.out]
            (apply Ghost.mk [(6, 214)] []; (case hdead => rfl); (case hinj => rfl); (case hV => (simp only [go_sem, *]) <;> (repeat' (first | refine And.intro ?_ ?_ | exact .bp rfl (by decide) | exact .own rfl (by decide) | exact View.fn6 rfl rfl rfl rfl rfl rfl (by decide)))); (case hB => (simp only [go_sem, *]) <;> (repeat' (first | refine And.intro ?_ ?_ | exact ⟨_, rfl, BView.boxF rfl⟩ | exact ⟨_, rfl, BView.own1 rfl (by decide)⟩ | exact ⟨_, rfl, .rowE (by first | rfl | omega | (simp; done) | (rw [wrap_i64] <;> (try simp only [Int.natCast_add]) <;> omega) | (simp [*]; done))⟩ | exact ⟨_, rfl, BView.fn0⟩))))
        · have hlt' : ¬ (n : Int) < P.length := by omega
          have e1 : P.take n = P := List.take_of_length_le (by omega)
          rw [e1]
          have hO := segs_len (fun p => f (hasB ca p) (hasB cb p)) P
          have cn := normal_ok (segs (fun p => f (hasB ca p) (hasB cb p)) P) (by omega)
          generalize segs (fun p => f (hasB ca p) (hasB cb p)) P = O at *
          clear hmem hca hcb hik hPp e1
          unfold sw2
          dsimp only
          repeat' (first
 | (apply Awp.sreg; (case hn => (simp only [List.length_cons, List.length_nil, Nat.reduceAdd] <;> rfl)))
 | (refine st_nil ?_)
 | (apply st_a; (case hc => rfl); (case he => (simp only [go_sem, *] <;> rfl)); (case hu => (simp only [updL_nil, updL_cons] <;> rfl)); (case hp => first | trivial))
 | (apply st_cod; (case hc => (simp only [go_sem, *] <;> rfl)); (case hl => (simp only [go_sem, *] <;> rfl)); (case hn => (simp only [go_sem, *] <;> rfl)); (case hp => first | exact cn | (have hXz := cn; simp only [go_sem, *] at hXz; exact hXz)); (case hd => first | exact sps_dry _ | exact ints_dry _ | (repeat' (first | exact Dry.v _ | exact Dry.any | exact Dry.nils | exact Dry.slE | refine Dry.agg ?_ | refine Dry.tup ?_ | (refine List.forall_mem_cons.2 (And.intro ?_ ?_)) | (intro cQ hQ; cases hQ; done)))); (case hm => first | decide | (simp; done)))
 | (refine Awp.ret ?_; try simp only [go_sem, *])
 | (refine Awp.exit ?_; try simp only [go_sem, *])
 | (apply Awp.cond; (case hc => (simp only [go_sem, *] <;> rfl)); all_goals (intro hg; (try simp only [Bool.not_true, Bool.not_false, reduceCtorEq] at hg)))
 | refine Awp.seq ?_)
          exact ⟨_, rfl, rfl⟩
end Go.Proofs
namespace Go.Proofs
open Go Go.Ab
set_option maxHeartbeats 8000000
set_option maxRecDepth 100000
attribute [local irreducible] Awp aops aopsL Go.Ab.Pure PureOwn
theorem ginter_ok (a b : List Sp) (ha : a.length < 2000) (hb : b.length < 2000) : PureOwn Tryz.prog 37 [.sl (sps a), .sl (sps b)] (sps (canon (interL a b))) 2 30 := by
  have c0 := sweep_ok 59 (fun x y => x && y) andC_ok rfl a b (interL a b) ha hb (fun n => by rw [inter_has, Bool.and_eq_true, hasB_iff, hasB_iff])
  refine fn_own Tryz.F37 (Nat.le_of_ble_eq_true rfl) ?_; unfold Tryz.ac37 AR AM AO
  repeat' (first
 | (apply Awp.sreg; (case hn => (simp only [List.length_cons, List.length_nil, Nat.reduceAdd] <;> rfl)))
 | (refine st_nil ?_)
 | (apply st_a; (case hc => rfl); (case he => (simp only [go_sem, *] <;> rfl)); (case hu => (simp only [updL_nil, updL_cons] <;> rfl)); (case hp => first | trivial))
 | (apply st_co; (case hc => (simp only [go_sem, *] <;> rfl)); (case hl => (simp only [go_sem, *] <;> rfl)); (case hn => (simp only [go_sem, *] <;> rfl)); (case hp => first | exact c0 | (have hXz := c0; simp only [go_sem, *] at hXz; exact hXz)))
 | (refine Awp.ret ?_; try simp only [go_sem, *]))
  all_goals exact ⟨_, rfl, rfl⟩
theorem gminus_ok (a b : List Sp) (ha : a.length < 2000) (hb : b.length < 2000) : PureOwn Tryz.prog 36 [.sl (sps a), .sl (sps b)] (sps (minusL a b)) 2 30 := by
  have c0 := sweep_ok 58 (fun x y => x && !y) diffC_ok rfl a b (minusL a b) ha hb (fun n => by
    rw [(minus_is a b).2 n, Bool.and_eq_true, hasB_iff, Bool.not_eq_true', ← hasB_iff b, Bool.not_eq_true])
  have e : canon (minusL a b) = minusL a b := (canon_eq (minus_is a b).1 fun n => Iff.rfl).symm
  rw [e] at c0
  refine fn_own Tryz.F36 (Nat.le_of_ble_eq_true rfl) ?_; unfold Tryz.ac36 AR AM AO
  repeat' (first
 | (apply Awp.sreg; (case hn => (simp only [List.length_cons, List.length_nil, Nat.reduceAdd] <;> rfl)))
 | (refine st_nil ?_)
 | (apply st_a; (case hc => rfl); (case he => (simp only [go_sem, *] <;> rfl)); (case hu => (simp only [updL_nil, updL_cons] <;> rfl)); (case hp => first | trivial))
 | (apply st_co; (case hc => (simp only [go_sem, *] <;> rfl)); (case hl => (simp only [go_sem, *] <;> rfl)); (case hn => (simp only [go_sem, *] <;> rfl)); (case hp => first | exact c0 | (have hXz := c0; simp only [go_sem, *] at hXz; exact hXz)))
 | (refine Awp.ret ?_; try simp only [go_sem, *]))
  all_goals exact ⟨_, rfl, rfl⟩
def heldL (l : List Sty) (nm : ByteArray) : List Sp := (l.filter (inNm nm)).map fun q => ⟨q.a, q.b⟩
def wetB (t : Int) : Bool := decide (t < 9223372036854775807)
def wetS (t : Int) : Sp := ⟨t, IntKind.i64.wrap (t + 1)⟩
def wetL (F : List Int) : List Sp := (F.filter wetB).map wetS
def wetR (l : List Sty) (nm : ByteArray) : List Sp := wetL (floodL l nm)
theorem heldL_len (l : List Sty) (nm : ByteArray) : (heldL l nm).length ≤ l.length := by
  have := List.length_filter_le (inNm nm) l
  simp [heldL]; omega
theorem wetL_len (F : List Int) : (wetL F).length ≤ F.length := by
  have := List.length_filter_le wetB F
  simp [wetL]; omega
theorem heldL_step (l : List Sty) (nm : ByteArray) (i : Nat) (h : i < l.length) : heldL (l.take (i + 1)) nm = heldL (l.take i) nm ++ (if inNm nm (l.getD i zeroSty) = true then [⟨(l.getD i zeroSty).a, (l.getD i zeroSty).b⟩] else []) := by
  rw [take_snoc l zeroSty i h]
  unfold heldL
  rw [List.filter_append, List.map_append]
  congr 1
  by_cases hp : inNm nm (l.getD i zeroSty) = true
  · rw [if_pos hp, List.filter_cons_of_pos (by exact hp)]; rfl
  · rw [if_neg hp, List.filter_cons_of_neg (by exact hp)]; rfl
theorem wetL_app (F : List Int) (t : Int) : wetL (F ++ [t]) = wetL F ++ (if wetB t = true then [wetS t] else []) := by
  unfold wetL
  rw [List.filter_append, List.map_append]
  congr 1
  by_cases hp : wetB t = true
  · rw [if_pos hp, List.filter_cons_of_pos (by exact hp)]; rfl
  · rw [if_neg hp, List.filter_cons_of_neg (by exact hp)]; rfl
def dryE (l : List Sty) (nm : ByteArray) (w : Sp) : List Sp := minusL (canon (interL (heldL l nm) [w])) (wetR l nm)
theorem dry_eq (l : List Sty) (nm : ByteArray) (w : Sp) : minusL (canon (interL (heldL l nm) [w])) (wetL (floodZ l nm)) = dryE l nm w := by
  unfold dryE
  refine canon_ext (minus_is _ _).1 (minus_is _ _).1 fun n => ?_
  rw [(minus_is _ _).2, (minus_is _ _).2]
  have e : hasS (wetL (floodZ l nm)) n ↔ hasS (wetR l nm) n := by
    unfold hasS wetR
    have hm : ∀ s : Sp, s ∈ wetL (floodZ l nm) ↔ s ∈ wetL (floodL l nm) := fun s => by
      unfold wetL floodZ
      simp only [List.mem_map, List.mem_filter, mem_cs]
    constructor
    · rintro ⟨s, hs, h⟩; exact ⟨s, (hm s).1 hs, h⟩
    · rintro ⟨s, hs, h⟩; exact ⟨s, (hm s).2 hs, h⟩
  rw [e]
theorem wet_snoc (l : List Sp) (t : Int) : sps l ++ [[.v (.int .i64 t), .v (.int .i64 (IntKind.i64.wrap (t + 1)))]] = sps (l ++ [wetS t]) := sps_snoc l (wetS t)
theorem dry_ok (l : List Sty) (nm : ByteArray) (w : Sp) (hl : l.length < 1900) : PureOwn Tryz.prog 18 [.sl (stys l), .v (.string nm), w.av] (sps (dryE l nm w)) 2 30 := by
  rw [← dry_eq]
  refine fn_own Tryz.F18 (Nat.le_of_ble_eq_true rfl) ?_; unfold Tryz.ac18 AR AM AO
  repeat' (first
 | (apply Awp.sreg; (case hn => (simp only [List.length_cons, List.length_nil, Nat.reduceAdd] <;> rfl)))
 | (refine st_nil ?_)
 | (apply st_a; (case hc => rfl); (case he => (simp only [go_sem, *] <;> rfl)); (case hu => (simp only [updL_nil, updL_cons] <;> rfl)); (case hp => first | trivial))
 | refine Awp.block ?_
 | refine Awp.seq ?_)
  refine Awp.loop (fun i : Nat => i ≤ l.length) 50 (fun i => mkS [(0, .sl (stys l)), (1, .v (.string nm)), (5, .bp 0 0), (7, .own 1), (8, .own 2), (13, .sl (stys l)), (14, .v (.int .i64 l.length)), (15, .v (.int .i64 i))] [(0, .box w.cells), (1, .row (sps (heldL (l.take i) nm)) 2 30), (2, .row [] 2 30)]) (fun i => l.length - i) 0 (by omega) ?_ ?_
  · refine Ghost.trans (Ghost.name 7 2 30 rfl (by decide)) (Ghost.trans (Ghost.name 8 2 30 rfl (by decide)) ?_)
    have e1 : heldL (l.take 0) nm = [] := rfl
    rw [e1]
    (apply Ghost.mk [(1, 7), (2, 8)] []; (case hdead => rfl); (case hinj => rfl); (case hV => (simp only [go_sem, *]) <;> (repeat' (first | refine And.intro ?_ ?_ | exact View.int (by first | rfl | omega | (simp; done) | (rw [wrap_i64] <;> (try simp only [Int.natCast_add]) <;> omega) | (simp [*]; done)) | exact .bp rfl (by decide) | exact .own rfl (by decide)))); (case hB => (simp only [go_sem, *]) <;> (repeat' (first | refine And.intro ?_ ?_ | exact ⟨_, rfl, BView.boxF rfl⟩ | exact ⟨_, rfl, .rowE (by first | rfl | omega | (simp; done) | (rw [wrap_i64] <;> (try simp only [Int.natCast_add]) <;> omega) | (simp [*]; done))⟩))))
  · intro i hi
    by_cases hlt : i < l.length
    · have hlt' : (i : Int) < l.length := by omega
      have hat := stys_at l i hlt
      have hz : ((l.getD i zeroSty).cells).length = 8 := rfl
      have hst := heldL_step l nm i hlt
      have hln := heldL_len (l.take i) nm
      have htl : (l.take i).length = i := List.length_take_of_le hi
      cases hB : inNm nm (l.getD i zeroSty)
      · rw [hB] at hst
        simp only [Bool.false_eq_true, if_false, List.append_nil] at hst
        unfold inNm at hB
        repeat' (first
 | (apply Awp.sreg; (case hn => (simp only [List.length_cons, List.length_nil, Nat.reduceAdd] <;> rfl)))
 | (refine st_nil ?_)
 | (apply st_a; (case hc => rfl); (case he => (simp only [go_sem, *] <;> rfl)); (case hu => (simp only [updL_nil, updL_cons] <;> rfl)); (case hp => first | trivial | omega))
 | (apply Awp.reg; (case hn => (simp only [List.length_cons, List.length_nil, Nat.reduceAdd] <;> rfl)))
 | (refine Awp.skip ?_; try simp only [go_sem, *])
 | refine Awp.block ?_
 | (apply Awp.cond; (case hc => (simp only [go_sem, *] <;> rfl)); all_goals (intro hg; (try simp only [Bool.not_true, Bool.not_false, reduceCtorEq] at hg)))
 | refine Awp.seq ?_)
        refine ⟨i + 1, by omega, by omega, ?_⟩
        (apply Ghost.mk [] []; (case hdead => rfl); (case hinj => rfl); (case hV => (simp only [go_sem, *]) <;> (repeat' (first | refine And.intro ?_ ?_ | exact View.int (by first | rfl | omega | (simp; done) | (rw [wrap_i64] <;> (try simp only [Int.natCast_add]) <;> omega) | (simp [*]; done)) | exact .bp rfl (by decide) | exact .own rfl (by decide)))); (case hB => (simp only [go_sem, *]) <;> (repeat' (first | refine And.intro ?_ ?_ | exact ⟨_, rfl, BView.boxF rfl⟩ | exact ⟨_, rfl, .rowE (by first | rfl | omega | (simp; done) | (rw [wrap_i64] <;> (try simp only [Int.natCast_add]) <;> omega) | (simp [*]; done))⟩))))
      · rw [hB] at hst
        simp only [if_true] at hst
        unfold inNm at hB
        repeat' (first
 | (apply Awp.sreg; (case hn => (simp only [List.length_cons, List.length_nil, Nat.reduceAdd] <;> rfl)))
 | (refine st_nil ?_)
 | (apply st_a; (case hc => rfl); (case he => (simp only [go_sem, *] <;> rfl)); (case hu => (simp only [updL_nil, updL_cons] <;> rfl)); (case hp => first | trivial | omega | (simp; done) | (simp; omega)))
 | (apply Awp.reg; (case hn => (simp only [List.length_cons, List.length_nil, Nat.reduceAdd] <;> rfl)))
 | (refine Awp.skip ?_; try simp only [go_sem, *])
 | refine Awp.block ?_
 | (apply Awp.cond; (case hc => (simp only [go_sem, *] <;> rfl)); all_goals (intro hg; (try simp only [Bool.not_true, Bool.not_false, reduceCtorEq] at hg)))
 | refine Awp.seq ?_)
        refine ⟨i + 1, by omega, by omega, ?_⟩
        (apply Ghost.mk [(1, 63)] []; (case hdead => rfl); (case hinj => rfl); (case hV => (simp only [go_sem, *]) <;> (repeat' (first | refine And.intro ?_ ?_ | exact View.int (by first | rfl | exact sps_snoc _ ⟨_, _⟩ | omega | (simp; done) | (rw [wrap_i64] <;> (try simp only [Int.natCast_add]) <;> omega) | (simp [*]; done)) | exact .bp rfl (by decide) | exact .own rfl (by decide)))); (case hB => (simp only [go_sem, *]) <;> (repeat' (first | refine And.intro ?_ ?_ | exact ⟨_, rfl, BView.boxF rfl⟩ | exact ⟨_, rfl, .rowE (by first | rfl | exact sps_snoc _ ⟨_, _⟩ | omega | (simp; done) | (rw [wrap_i64] <;> (try simp only [Int.natCast_add]) <;> omega) | (simp [*]; done))⟩))))
    · have hlt' : ¬ (i : Int) < l.length := by omega
      have e1 : l.take i = l := List.take_of_length_le (by omega)
      have c0 := floods_ok l nm (by omega)
      have hFl := floodZ_len l nm
      have hHl := heldL_len l nm
      rw [e1]
      repeat' (first
 | (apply Awp.sreg; (case hn => (simp only [List.length_cons, List.length_nil, Nat.reduceAdd] <;> rfl)))
 | (refine st_nil ?_)
 | (apply st_a; (case hc => rfl); (case he => (simp only [go_sem, *] <;> rfl)); (case hu => (simp only [updL_nil, updL_cons] <;> rfl)); (case hp => first | trivial))
 | (apply st_co; (case hc => (simp only [go_sem, *] <;> rfl)); (case hl => (simp only [go_sem, *] <;> rfl)); (case hn => (simp only [go_sem, *] <;> rfl)); (case hp => first | exact c0 | (have hXz := c0; simp only [go_sem, *] at hXz; exact hXz)))
 | (refine Awp.exit ?_; try simp only [go_sem, *])
 | refine Awp.block ?_
 | (apply Awp.cond; (case hc => (simp only [go_sem, *] <;> rfl)); all_goals (intro hg; (try simp only [Bool.not_true, Bool.not_false, reduceCtorEq] at hg)))
 | refine Awp.seq ?_)
      obtain ⟨F, hF⟩ : ∃ F, floodZ l nm = F := ⟨_, rfl⟩
      obtain ⟨H, hH⟩ : ∃ H, heldL l nm = H := ⟨_, rfl⟩
      rw [hF] at hFl
      rw [hH] at hHl
      rw [hF, hH]
      clear c0 hF hH hlt hlt' e1 hi
      refine Awp.loop (fun i : Nat => i ≤ F.length) 100 (fun i => mkS [(5, .bp 0 0), (7, .own 1), (8, .own 2), (31, .own 3), (32, .v (.int .i64 F.length)), (33, .v (.int .i64 i))] [(0, .box w.cells), (1, .row (sps H) 2 30), (2, .row (sps (wetL (F.take i))) 2 30), (3, .row (ints F) 1 3)]) (fun i => F.length - i) 0 (by omega) ?_ ?_
      · have e1 : wetL (F.take 0) = [] := rfl
        rw [e1]
        (apply Ghost.mk [(3, 53)] []; (case hdead => rfl); (case hinj => rfl); (case hV => (simp only [go_sem, *]) <;> (repeat' (first | refine And.intro ?_ ?_ | exact View.int (by first | rfl | omega | (simp; done) | (rw [wrap_i64] <;> (try simp only [Int.natCast_add]) <;> omega) | (simp [*]; done)) | exact .bp rfl (by decide) | exact .own rfl (by decide)))); (case hB => (simp only [go_sem, *]) <;> (repeat' (first | refine And.intro ?_ ?_ | exact ⟨_, rfl, BView.boxF rfl⟩ | exact ⟨_, rfl, .rowE (by first | rfl | omega | (simp; done) | (rw [wrap_i64] <;> (try simp only [Int.natCast_add]) <;> omega) | (simp [*]; done))⟩))))
      · intro i hi
        by_cases hlt : i < F.length
        · have hlt' : (i : Int) < F.length := by omega
          have hat := ints_at F i hlt
          have hst := wetL_app (F.take i) (F.getD i 0)
          rw [← take_snocI F i hlt] at hst
          have hln := wetL_len (F.take i)
          have htl : (F.take i).length = i := List.length_take_of_le hi
          obtain ⟨t, ht⟩ : ∃ t, F.getD i 0 = t := ⟨_, rfl⟩
          rw [ht] at hat hst
          clear ht
          cases hB : wetB t
          · rw [hB] at hst
            simp only [Bool.false_eq_true, if_false, List.append_nil] at hst
            unfold wetB at hB
            repeat' (first
 | (apply Awp.sreg; (case hn => (simp only [List.length_cons, List.length_nil, Nat.reduceAdd] <;> rfl)))
 | (refine st_nil ?_)
 | (apply st_a; (case hc => rfl); (case he => (simp only [go_sem, *] <;> rfl)); (case hu => (simp only [updL_nil, updL_cons] <;> rfl)); (case hp => first | trivial | omega))
 | (apply Awp.reg; (case hn => (simp only [List.length_cons, List.length_nil, Nat.reduceAdd] <;> rfl)))
 | (refine Awp.skip ?_; try simp only [go_sem, *])
 | refine Awp.block ?_
 | (apply Awp.cond; (case hc => (simp only [go_sem, *] <;> rfl)); all_goals (intro hg; (try simp only [Bool.not_true, Bool.not_false, reduceCtorEq] at hg)))
 | refine Awp.seq ?_)
            refine ⟨i + 1, by omega, by omega, ?_⟩
            (apply Ghost.mk [] []; (case hdead => rfl); (case hinj => rfl); (case hV => (simp only [go_sem, *]) <;> (repeat' (first | refine And.intro ?_ ?_ | exact View.int (by first | rfl | omega | (simp; done) | (rw [wrap_i64] <;> (try simp only [Int.natCast_add]) <;> omega) | (simp [*]; done)) | exact .bp rfl (by decide) | exact .own rfl (by decide)))); (case hB => (simp only [go_sem, *]) <;> (repeat' (first | refine And.intro ?_ ?_ | exact ⟨_, rfl, BView.boxF rfl⟩ | exact ⟨_, rfl, .rowE (by first | rfl | omega | (simp; done) | (rw [wrap_i64] <;> (try simp only [Int.natCast_add]) <;> omega) | (simp [*]; done))⟩))))
          · rw [hB] at hst
            simp only [if_true] at hst
            unfold wetB at hB
            repeat' (first
 | (apply Awp.sreg; (case hn => (simp only [List.length_cons, List.length_nil, Nat.reduceAdd] <;> rfl)))
 | (refine st_nil ?_)
 | (apply st_a; (case hc => rfl); (case he => (simp only [go_sem, *] <;> rfl)); (case hu => (simp only [updL_nil, updL_cons] <;> rfl)); (case hp => first | trivial | omega | (simp; done) | (simp; omega)))
 | (apply Awp.reg; (case hn => (simp only [List.length_cons, List.length_nil, Nat.reduceAdd] <;> rfl)))
 | (refine Awp.skip ?_; try simp only [go_sem, *])
 | refine Awp.block ?_
 | (apply Awp.cond; (case hc => (simp only [go_sem, *] <;> rfl)); all_goals (intro hg; (try simp only [Bool.not_true, Bool.not_false, reduceCtorEq] at hg)))
 | refine Awp.seq ?_)
            refine ⟨i + 1, by omega, by omega, ?_⟩
            (apply Ghost.mk [(2, 112)] []; (case hdead => rfl); (case hinj => rfl); (case hV => (simp only [go_sem, *]) <;> (repeat' (first | refine And.intro ?_ ?_ | exact View.int (by first | rfl | exact wet_snoc _ _ | omega | (simp; done) | (rw [wrap_i64] <;> (try simp only [Int.natCast_add]) <;> omega) | (simp [*]; done)) | exact .bp rfl (by decide) | exact .own rfl (by decide)))); (case hB => (simp only [go_sem, *]) <;> (repeat' (first | refine And.intro ?_ ?_ | exact ⟨_, rfl, BView.boxF rfl⟩ | exact ⟨_, rfl, .rowE (by first | rfl | exact wet_snoc _ _ | omega | (simp; done) | (rw [wrap_i64] <;> (try simp only [Int.natCast_add]) <;> omega) | (simp [*]; done))⟩))))
        · have hlt' : ¬ (i : Int) < F.length := by omega
          have e1 : F.take i = F := List.take_of_length_le (by omega)
          have hWl := wetL_len F
          have hIl : (canon (interL H [w])).length < 2000 := by
            have := canon_len (interL H [w])
            rw [inter_len] at this
            simp at this; omega
          have c1 := ginter_ok H [w] (by omega) (by simp)
          have c2 := gminus_ok (canon (interL H [w])) (wetL F) hIl (by omega)
          have hw := sps_one1 w
          rw [e1]
          repeat' (first
 | (apply Awp.sreg; (case hn => (simp only [List.length_cons, List.length_nil, Nat.reduceAdd] <;> rfl)))
 | (refine st_nil ?_)
 | (apply st_a; (case hc => rfl); (case he => (simp only [go_sem, *] <;> rfl)); (case hu => (simp only [updL_nil, updL_cons] <;> rfl)); (case hp => first | trivial | (simp; done)))
 | (apply st_cod; (case hc => (simp only [go_sem, *] <;> rfl)); (case hl => (simp only [go_sem, *] <;> rfl)); (case hn => (simp only [go_sem, *] <;> rfl)); (case hp => first | exact c1 | (have hXz := c1; simp only [go_sem, *] at hXz; exact hXz)); (case hd => first | exact sps_dry _ | exact ints_dry _ | (repeat' (first | exact Dry.v _ | exact Dry.any | exact Dry.nils | exact Dry.slE | refine Dry.agg ?_ | refine Dry.tup ?_ | (refine List.forall_mem_cons.2 (And.intro ?_ ?_)) | (intro cQ hQ; cases hQ; done)))); (case hm => first | decide | (simp; done)))
 | (apply st_cod; (case hc => (simp only [go_sem, *] <;> rfl)); (case hl => (simp only [go_sem, *] <;> rfl)); (case hn => (simp only [go_sem, *] <;> rfl)); (case hp => first | exact c2 | (have hXz := c2; simp only [go_sem, *] at hXz; exact hXz)); (case hd => first | exact sps_dry _ | exact ints_dry _ | (repeat' (first | exact Dry.v _ | exact Dry.any | exact Dry.nils | exact Dry.slE | refine Dry.agg ?_ | refine Dry.tup ?_ | (refine List.forall_mem_cons.2 (And.intro ?_ ?_)) | (intro cQ hQ; cases hQ; done)))); (case hm => first | decide | (simp; done)))
 | (refine Awp.ret ?_; try simp only [go_sem, *])
 | (refine Awp.exit ?_; try simp only [go_sem, *])
 | (apply Awp.cond; (case hc => (simp only [go_sem, *] <;> rfl)); all_goals (intro hg; (try simp only [Bool.not_true, Bool.not_false, reduceCtorEq] at hg)))
 | refine Awp.seq ?_)
          exact ⟨_, rfl, rfl⟩
end Go.Proofs
namespace Go.Ab
open Go.RowKit
open Go
def PureTwo (P : Program) (f : FuncId) (args : List AV) (es : List (List AV)) (sz : Nat) (ty : TypeId) (y : Value) : Prop :=
  Callable P f ∧ ∀ (ok : Nat → Prop) (w : World) (cs : List Value), PArgs ok w args cs →
    Calls P f cs.toArray w fun e w' => ∃ c, e = .returned (.tuple #[c, y]) ∧ Keeps w w' ∧ (∃ a n cap, c = .slice a n cap) ∧ (∃ xs, RowFits (fun g => g < w'.heap.size ∧ (ok g ∨ w.heap.size ≤ g) ∧ blkOf c ≠ some g) w' es sz ty c xs) ∧ ∀ g, blkOf c = some g → w.heap.size ≤ g
section use
variable {P : Program} {f : FuncId} {args args' : List AV} {hl : List (Nat × Blk)} {nm : Nat}
theorem CallC.two {es : List (List AV)} {sz : Nat} {ty : TypeId} {y : Value} (h : PureTwo P f args' es sz ty y) (hlen : args.length = args'.length) (hlow : ∀ j, j < args.length → Lower (listH hl) (av args j) (av args' j)) (hnm : nm ∉ hl.map (·.1)) (hd : hl = [] ∨ ∀ y ∈ es, ∀ c ∈ y, Dry c) :
    CallC P f args hl nm (.tup [.own nm, .v y]) [(nm, some (.row es sz ty))] := by
  refine ⟨h.1, fun prov β w cs hn hb hi hv => ?_⟩
  refine (h.2 _ w cs (lower_args hb hv hlen hlow)).mono fun e w' ⟨c, he, hk, ⟨a, m, cap, hc⟩, ⟨xs, hf⟩, hnew⟩ => ?_
  have hg : Grows β (upd β nm c) := fun k hk => by
    unfold upd; split
    · rename_i h; subst h; exact absurd hn hk
    · rfl
  have hlk : ∀ n, updL (listH hl) [(nm, some (Blk.row es sz ty))] n = if n = nm then some (.row es sz ty) else listH hl n := fun n => rfl
  have hne : ∀ n b, listH hl n = some b → n ≠ nm := fun n b h e => hnm (by subst e; exact List.mem_map.2 ⟨_, listH_mem h, rfl⟩)
  refine ⟨.tuple #[c, y], upd β nm c, he, hk.os, hk.tape, hk.out, hk.size, hg, fun n hn' => by simp [upd, hn'], fun g hg _ => hk.heap g hg, ?_, fun n b hb' hm => ?_, ?_⟩
  · subst hc
    refine .tup [.own nm, .v y] [_, y] rfl fun j hj => ?_
    match j, hj with
    | 0, _ => exact .own nm (by simp [upd, cv])
    | 1, _ => exact .pure (.v _)
  · have hm' : n = nm := by simpa using hm
    rw [hm'] at hb' ⊢
    rw [hlk, if_pos rfl] at hb'
    simp at hb'
    subst hb'
    simp only [upd, if_true]
    refine ⟨⟨xs, hf.z, hf.pos, hf.row, hf.one, fun i j hi' hj => ?_⟩, fun g hg => .inl (hnew g hg)⟩
    have hp := hf.cell i j hi' hj
    rcases hd with rfl | hd
    · refine hp.mono fun g ⟨h1, h2, h3⟩ => ⟨⟨h1, h2.imp (fun h => h.elim id fun ⟨n, b, h3, _⟩ => by simp [listH] at h3) id, fun n b hb' => ?_⟩, rfl⟩
      rw [hlk] at hb'
      by_cases hnn : n = nm
      · rw [hnn]; simp only [upd, if_true]; exact h3
      · rw [if_neg hnn] at hb'; simp [listH] at hb'
    · have hel : es.getD i [] ∈ es := by simp [List.getD_eq_getElem?_getD, hi']
      exact (hd _ hel _ (av_mem (by rw [hf.z _ hel]; exact hj))).mono hp
  · intro n m b b' g h1 h2 g1 g2
    rw [hlk] at h1 h2
    by_cases e1 : n = nm <;> by_cases e2 : m = nm
    · rw [e1, e2]
    · rw [if_neg e2] at h2
      simp only [upd, if_pos e1, if_neg e2] at g1 g2
      have := hnew g g1
      have := (hb m b' h2).lt g2
      omega
    · rw [if_neg e1] at h1
      simp only [upd, if_neg e1, if_pos e2] at g1 g2
      have := hnew g g2
      have := (hb n b h1).lt g1
      omega
    · rw [if_neg e1] at h1
      rw [if_neg e2] at h2
      simp only [upd, if_neg e1, if_neg e2] at g1 g2
      exact hi n m b b' g h1 h2 g1 g2
end use
section fns
variable {P : Program} {f : FuncId} {fn : Func} {ac : ACode} {n : Nat} {rs : List ResultVar} {args : List AV}
theorem fn_two (F : FnFacts P f fn ac n rs) (hn : args.length ≤ n) {es : List (List AV)} {sz : Nat} {ty : TypeId} {y : Value}
    (h : Awp P n 0 ac 0 (S0 args) fun e _ S => (e = .normal ∨ e = .ret) ∧ resSide P S rs ∧ ∃ b, resV (resVals P S rs) = .tup [.own b, .v y] ∧ S.h b = some (.row es sz ty)) : PureTwo P f args es sz ty y := by
  obtain ⟨code, hbody, hcomp⟩ := F.code
  refine ⟨F.callable, fun ok w cs ha => ?_⟩
  refine calls_of_wp F.at_ hbody ?_
  rw [F.nt]
  have s0 := sim_start ha n hn
  refine h code hcomp F.ok F.mixed { w0 := w, β0 := fun _ => undef, prov := ok, may := fun _ => False, n := n } _ _ w rfl ⟨fun _ _ => rfl, fun _ _ h => h⟩ s0 _ fun e nx S β a w' ⟨he, hs, b, hb, hB⟩ s => ?_
  obtain ⟨c, hc, hv⟩ := results_run (f := fn) s (by rw [F.rseq]; exact F.res) (by rw [F.rseq]; exact hs)
  rw [F.rseq] at hv
  rw [hb] at hv
  obtain ⟨xs, hcx, hxl, hxr⟩ := hv.tup_inv
  match xs, hxl with
  | [c1, c2], _ =>
  have h0 := hxr 0 (by simp)
  have h1 := hxr 1 (by simp)
  simp only [av_zero, av_succ, cv, List.getD_cons_zero, List.getD_cons_succ] at h0 h1
  have hy : c2 = y := h1.v_inv
  rw [hy] at hcx
  obtain ⟨hcβ, ad, m, cap, hcs⟩ := h0.own_inv
  have fin : a.defers = [] ∧ ∃ v, (results fn a.tmps).run P w' = .ok v w' ∧ ∃ c, Ending.returned v = .returned (.tuple #[c, y]) ∧ Keeps w w' ∧ (∃ a n cap, c = .slice a n cap) ∧
      (∃ xs, RowFits (fun g => g < w'.heap.size ∧ (ok g ∨ w.heap.size ≤ g) ∧ blkOf c ≠ some g) w' es sz ty c xs) ∧ ∀ g, blkOf c = some g → w.heap.size ≤ g := by
    refine ⟨s.df, c, hc, c1, by rw [hcx], ⟨s.os, s.tape, s.out, s.size, fun g hg => s.keep g hg id⟩, ⟨_, _, _, hcs⟩, ?_, fun g hg => ?_⟩
    · obtain ⟨xs, hf⟩ := s.bl b _ hB
      rw [← hcβ] at hf
      exact ⟨xs, hf.z, hf.pos, hf.row, hf.one, fun i j hi hj => (hf.cell i j hi hj).mono fun g hg => ⟨⟨hg.1, hg.2.1, by rw [hcβ]; exact hg.2.2 b _ hB⟩, rfl⟩⟩
    · rw [hcβ] at hg
      rcases s.mine b _ g hB hg with h | h
      · exact h.elim
      · exact h
  rcases he with rfl | rfl <;> exact fin
end fns
theorem callT_of {P : Program} {f : FuncId} {S : AState} {nm : Nat} {vs : List AV} {es : List (List AV)} {sz : Nat} {ty : TypeId} {y : Value} (h1 : PureTwo P f (lows S vs) es sz ty y) (h2 : nm ∉ (hls S vs).map (·.1)) (h3 : (hls S vs).map (·.1) = [] ∨ ∀ y ∈ es, ∀ c ∈ y, Dry c) :
    (effCall P S nm ⟨.tup [.own nm, .v y], [(nm, some (.row es sz ty))], hls S vs⟩ f vs).side := by
  have hs : ∀ p ∈ hls S vs, S.h p.1 = some p.2 := fun p hp => by
    obtain ⟨x, _, hx⟩ := List.mem_flatMap.1 hp
    exact hlOf_spec S.h 8 x p hx
  refine ⟨hs, fun p hp => by simp at hp; exact .inl (by rw [hp]), h2, CallC.two h1 (by simp [lows]) (fun j hj => ?_) h2 (h3.imp (fun e => by simpa using e) id)⟩
  have e : av (lows S vs) j = low S.h 8 (av vs j) := by simp [lows, av, List.getD_eq_getElem?_getD, hj]
  rw [e]
  exact lower_low S.h hs 8 _ fun p hp => List.mem_flatMap.2 ⟨_, av_mem hj, hp⟩
theorem st_ct {P : Program} {d : Option Nat} {op : AOp} {deps : List Nat} {r : List AOper} {nm : Nat} {t : Nat → AV} {h : Nat → Option Blk} {K : AState → Prop} {f : FuncId} {vs lv : List AV} {ns : List (Nat × Blk)} {es : List (List AV)} {sz : Nat} {ty : TypeId} {y : Value} (hc : callee ⟨t, h⟩ op = some (f, vs)) (hl : lows ⟨t, h⟩ vs = lv) (hn : hls ⟨t, h⟩ vs = ns) (hp : PureTwo P f lv es sz ty y) (hd : ns = [] ∨ ∀ y ∈ es, ∀ c ∈ y, Dry c) (hm : nm ∉ ns.map (·.1)) (hk : aops P r (nm + 1) ⟨putT t d (.tup [.own nm, .v y]), upd h nm (some (.row es sz ty))⟩ K) : aops P (⟨d, op, none, deps⟩ :: r) nm ⟨t, h⟩ K := by
  subst hl; subst hn
  obtain ⟨e1, e2⟩ := eff_callee (P := P) (nm := nm) (an := ⟨.tup [.own nm, .v y], [(nm, some (.row es sz ty))], hls ⟨t, h⟩ vs⟩) hc
  exact aops_call (P := P) ⟨.tup [.own nm, .v y], [(nm, some (.row es sz ty))], hls ⟨t, h⟩ vs⟩ (choosy_of_call e2) (by rw [e1]; exact callT_of hp hm (hd.imp (fun e => by rw [e]; rfl) id)) (by rw [e1]; exact hk)
end Go.Ab
namespace Go.Ab
def insI (x : Int) : List Int → List Int
  | [] => [x]
  | y :: l => if x ≤ y then x :: y :: l else y :: insI x l
def isortI : List Int → List Int
  | [] => []
  | x :: l => insI x (isortI l)
theorem insI_perm (x : Int) : ∀ l, (insI x l).Perm (x :: l)
  | [] => .refl _
  | y :: l => by
    unfold insI
    split
    · exact .refl _
    · exact ((insI_perm x l).cons y).trans (.swap x y l)
theorem isortI_perm : ∀ l, (isortI l).Perm l
  | [] => .refl _
  | x :: l => (insI_perm x _).trans ((isortI_perm l).cons x)
theorem insI_asc (x : Int) : ∀ l : List Int, l.Pairwise (· ≤ ·) → (insI x l).Pairwise (· ≤ ·)
  | [], _ => by simp [insI]
  | y :: l, h => by
    rw [List.pairwise_cons] at h
    unfold insI
    split
    · rename_i hxy
      refine List.pairwise_cons.2 ⟨fun z hz => ?_, List.pairwise_cons.2 h⟩
      rcases List.mem_cons.1 hz with rfl | hz
      · exact hxy
      · exact Int.le_trans hxy (h.1 z hz)
    · rename_i hxy
      refine List.pairwise_cons.2 ⟨fun z hz => ?_, insI_asc x l h.2⟩
      rcases List.mem_cons.1 ((insI_perm x l).mem_iff.1 hz) with rfl | hz
      · omega
      · exact h.1 z hz
theorem isortI_asc : ∀ l, (isortI l).Pairwise (· ≤ ·)
  | [] => .nil
  | x :: l => insI_asc x _ (isortI_asc l)
theorem asc_perm_eq : ∀ {l m : List Int}, l.Perm m → l.Pairwise (· ≤ ·) → m.Pairwise (· ≤ ·) → l = m
  | [], m, h, _, _ => by rw [List.nil_perm.1 h]
  | a :: l, [], h, _, _ => by simp at h
  | a :: l, b :: m, h, hl, hm => by
    have hl' := List.pairwise_cons.1 hl
    have hm' := List.pairwise_cons.1 hm
    have hab : a = b := by
      rcases List.mem_cons.1 (h.mem_iff.1 (List.mem_cons.2 (.inl rfl))) with e | e
      · exact e
      · rcases List.mem_cons.1 (h.mem_iff.2 (List.mem_cons.2 (.inl rfl))) with e' | e'
        · exact e'.symm
        · have := hl'.1 b e'; have := hm'.1 a e; omega
    subst hab
    rw [asc_perm_eq ((List.perm_cons a).1 h) hl'.2 hm'.2]
theorem sortZ_ins : sortZ = isortI := funext fun l => asc_perm_eq ((List.mergeSort_perm l _).trans (isortI_perm l).symm) (sortZ_asc l) (isortI_asc l)
end Go.Ab
namespace Go.Proofs
open Go Go.Ab
set_option maxHeartbeats 8000000
set_option maxRecDepth 100000
attribute [local irreducible] Awp aops aopsL Go.Ab.Pure PureOwn
theorem delay_two (bs : List By) (l : List Sty) (hull : ByteArray) (h : Int) (n : Nat) (hb : bs.length < 90000) (hl : l.length < 80000) (hC : dockE bs l = 0) (hn : idxF (hullB hull) l = n) (hnl : n < l.length) (hR : (!(decide (0 ≤ h) && decide (h ≤ 1048576))) = false) (hDE : dockE bs (delayL l n h) = 0) :
    PureTwo Tryz.prog 22 [.sl (bys bs), .sl (stys l), .v (.string hull), .v (.int .i64 h)] (stys (delayL l n h)) 8 43 (.int .i64 0) := by
  have c0 := dcheck_ok bs l (by omega) (by omega)
  have c2 := indexK_ok l 48 [.v (.string hull)] (hullB hull) (by omega) (delC_ok hull)
  rw [hC] at c0
  rw [hn] at c2
  have hn0 : ¬ (n : Int) < 0 := by omega
  clear hn
  have hDl := delayL_len l n h
  have hDa := delayL_at l n h
  obtain ⟨D, hD⟩ : ∃ D, delayL l n h = D := ⟨_, rfl⟩
  have h1 := stys_one l
  have hpos : 0 < l.length := by omega
  rw [hD] at hDl hDa hDE ⊢
  have c3 := dcheck_ok bs D (by omega) (by omega)
  refine fn_two Tryz.F22 (Nat.le_of_ble_eq_true rfl) ?_; unfold Tryz.ac22 AR AM AO
  repeat' (first
 | (apply Awp.sreg; (case hn => (simp only [List.length_cons, List.length_nil, Nat.reduceAdd] <;> rfl)))
 | (refine st_nil ?_)
 | (apply st_a; (case hc => rfl); (case he => (simp only [go_sem, *] <;> rfl)); (case hu => (simp only [updL_nil, updL_cons] <;> rfl)); (case hp => first | trivial | omega | (simp; omega)))
 | (apply st_c; (case hc => (simp only [go_sem, *] <;> rfl)); (case hl => (simp only [go_sem, *] <;> rfl)); (case hn => (simp only [go_sem, *] <;> rfl)); (case hp => first | exact c0 | (have hXz := c0; simp only [go_sem, *] at hXz; exact hXz)))
 | (apply st_cd; (case hc => (simp only [go_sem, *] <;> rfl)); (case hl => (simp only [go_sem, *] <;> rfl)); (case hn => (simp only [go_sem, *] <;> rfl)); (case hp => first | exact c2 | (have hXz := c2; simp only [go_sem, *] at hXz; exact hXz)); (case hd => first | exact .v _ | exact .any | exact .nils | (repeat' (first | exact Dry.v _ | exact Dry.any | exact Dry.nils | exact Dry.slE | refine Dry.agg ?_ | refine Dry.tup ?_ | (refine List.forall_mem_cons.2 (And.intro ?_ ?_)) | (intro cQ hQ; cases hQ; done)))); (case hm => first | decide | (simp; done)))
 | (apply st_c; (case hc => (simp only [go_sem, *] <;> rfl)); (case hl => (simp only [go_sem, *] <;> rfl)); (case hn => (simp only [go_sem, *] <;> rfl)); (case hp => first | exact from_ok _ _ _ | (have hXz := from_ok _ _ _; simp only [go_sem, *] at hXz; exact hXz)))
 | (refine Awp.skip ?_; try simp only [go_sem, *])
 | refine Awp.block ?_
 | (apply Awp.cond; (case hc => (simp only [go_sem, *] <;> rfl)); all_goals (intro hg; (try simp only [Bool.not_true, Bool.not_false, reduceCtorEq] at hg)))
 | refine Awp.seq ?_)
  clear c0 c2 hR
  refine Awp.loop (fun i : Nat => i ≤ l.length) 100 (fun i => mkS [(0, .sl (bys bs)), (1, .sl (stys l)), (3, .v (.int .i64 h)), (11, .v (.int .i64 n)), (12, .own 0), (35, .sl (stys l)), (36, .v (.int .i64 l.length)), (37, .v (.int .i64 i))] [(0, .row (stys (mixL D l i)) 8 43)]) (fun i => l.length - i) 0 (by omega) ?_ ?_
  · have e1 : mixL D l 0 = l := by simp [mixL]
    rw [e1]
    (apply Ghost.mk [(0, 20)] []; (case hdead => rfl); (case hinj => rfl); (case hV => (simp only [go_sem, *]) <;> (repeat' (first | refine And.intro ?_ ?_ | exact View.int (by first | rfl | omega | (simp; done) | (rw [wrap_i64] <;> (try simp only [Int.natCast_add]) <;> omega) | (simp [*]; done)) | exact .own rfl (by decide)))); (case hB => (simp only [go_sem, *]) <;> (repeat' (first | exact ⟨_, rfl, .rowE (by first | rfl | omega | (simp; done) | (rw [wrap_i64] <;> (try simp only [Int.natCast_add]) <;> omega) | (simp [*]; done))⟩))))
  · intro i hi
    by_cases hlt : i < l.length
    · have hlt' : (i : Int) < l.length := by omega
      have hat := stys_at l i hlt
      have hatn := stys_at l n hnl
      have hz : ((l.getD i zeroSty).cells).length = 8 := rfl
      have hzn : ((l.getD n zeroSty).cells).length = 8 := rfl
      have hnl' : (n : Int) < l.length := by omega
      have hml := mix_len D l i hDl hi
      have hma : (stys (mixL D l i)).getD i [] = (l.getD i zeroSty).cells := by rw [stys_at _ _ (by omega), mix_at D l i hDl hlt]
      have hdi := hDa i hlt
      have hst := mix_step D l i hDl hlt
      have hsame := mix_same D l i hDl hlt
      rw [hdi] at hst hsame
      unfold movB at hst hsame
      clear hD hdi hDa
      generalize l.getD n zeroSty = z at *
      generalize l.getD i zeroSty = q at *
      cases hB : ((q.bay.toList == z.bay.toList) && (q.b == z.b))
      · have e2 := hsame (by rw [hB]; rfl)
        clear hsame hst
        repeat' (first
 | (apply Awp.sreg; (case hn => (simp only [List.length_cons, List.length_nil, Nat.reduceAdd] <;> rfl)))
 | (apply Awp.sdraw; (case hn => (simp only [List.length_cons, List.length_nil, Nat.reduceAdd] <;> rfl)))
 | (refine st_nil ?_)
 | (apply st_a; (case hc => rfl); (case he => (simp only [go_sem, *] <;> rfl)); (case hu => (simp only [updL_nil, updL_cons] <;> rfl)); (case hp => first | trivial | omega | (simp; done)))
 | (apply Awp.reg; (case hn => (simp only [List.length_cons, List.length_nil, Nat.reduceAdd] <;> rfl)))
 | (refine Awp.skip ?_; try simp only [go_sem, *])
 | refine Awp.block ?_
 | (apply Awp.cond; (case hc => (simp only [go_sem, *] <;> rfl)); all_goals (intro hg; (try simp only [Bool.not_true, Bool.not_false, reduceCtorEq] at hg)))
 | refine Awp.seq ?_
 | (apply sl_a; (case hc => rfl); (case he => (simp only [go_sem, *] <;> rfl)); (case hu => (simp only [updL_nil, updL_cons] <;> rfl)); (case hl => (simp only [List.map_cons, List.map_nil] <;> rfl)); (case hp => first | trivial | omega))
 | (apply sl_gn; (case hv => (simp only [go_sem, *] <;> rfl)); (case hbw => rfl))
 | (apply sl_ga; (case hb => rfl); (case hv => (simp only [go_sem, *] <;> rfl)); (case he => (simp only [go_sem, *] <;> rfl)); (case hu => (simp only [updL_nil, updL_cons] <;> rfl)); (case hl => (simp only [List.map_cons, List.map_nil] <;> rfl)); (case hp => first | trivial | omega))
 | (apply sl_case; (case hv => (simp only [go_sem, *] <;> rfl)); all_goals (intro hg; (try simp only [Bool.not_true, Bool.not_false, reduceCtorEq] at hg)))
 | (refine sl_nil (And.intro (by first | exact drawOk_of (by decide +kernel) | (simp only [List.map_cons, List.map_nil]; exact drawOk_of (by decide +kernel)) | decide) ?_)))
        all_goals first
          | (refine ⟨i + 1, by omega, by omega, ?_⟩
             (apply Ghost.mk [] []; (case hdead => rfl); (case hinj => rfl); (case hV => (simp only [go_sem, *]) <;> (repeat' (first | refine And.intro ?_ ?_ | exact View.int (by first | rfl | omega | (simp; done) | (rw [wrap_i64] <;> (try simp only [Int.natCast_add]) <;> omega) | (simp [*]; done)) | exact .own rfl (by decide)))); (case hB => (simp only [go_sem, *]) <;> (repeat' (first | exact ⟨_, rfl, .rowE (by first | rfl | omega | (simp; done) | (rw [wrap_i64] <;> (try simp only [Int.natCast_add]) <;> omega) | (simp [*]; done))⟩)))))
          | (exfalso; simp only [Bool.and_true, Bool.true_and, Bool.and_false, Bool.false_and, reduceCtorEq, *] at hB; done)
      · rw [hB] at hst
        simp only [if_true] at hst
        have hfin : (stys (mixL D l i)).set i [.v (.string q.item), .v (.string q.bay), .v (.int .i64 q.x), .v (.int .i64 q.y), .v (.int .i64 q.len), .v (.int .i64 q.wid), .v (.int .i64 q.a), .v (.int .i64 (IntKind.i64.wrap (q.b + h)))] = stys (mixL D l (i + 1)) := by
          rw [hst]; exact stys_set _ _ ⟨q.item, q.bay, q.x, q.y, q.len, q.wid, q.a, IntKind.i64.wrap (q.b + h)⟩
        clear hsame hst
        repeat' (first
 | (apply Awp.sreg; (case hn => (simp only [List.length_cons, List.length_nil, Nat.reduceAdd] <;> rfl)))
 | (apply Awp.sdraw; (case hn => (simp only [List.length_cons, List.length_nil, Nat.reduceAdd] <;> rfl)))
 | (refine st_nil ?_)
 | (apply st_a; (case hc => rfl); (case he => (simp only [go_sem, *] <;> rfl)); (case hu => (simp only [updL_nil, updL_cons] <;> rfl)); (case hp => first | trivial | omega | (simp; done)))
 | (apply Awp.reg; (case hn => (simp only [List.length_cons, List.length_nil, Nat.reduceAdd] <;> rfl)))
 | (refine Awp.skip ?_; try simp only [go_sem, *])
 | refine Awp.block ?_
 | (apply Awp.cond; (case hc => (simp only [go_sem, *] <;> rfl)); all_goals (intro hg; (try simp only [Bool.not_true, Bool.not_false, reduceCtorEq] at hg)))
 | refine Awp.seq ?_
 | (apply sl_a; (case hc => rfl); (case he => (simp only [go_sem, *] <;> rfl)); (case hu => (simp only [updL_nil, updL_cons] <;> rfl)); (case hl => (simp only [List.map_cons, List.map_nil] <;> rfl)); (case hp => first | trivial | omega))
 | (apply sl_gn; (case hv => (simp only [go_sem, *] <;> rfl)); (case hbw => rfl))
 | (apply sl_ga; (case hb => rfl); (case hv => (simp only [go_sem, *] <;> rfl)); (case he => (simp only [go_sem, *] <;> rfl)); (case hu => (simp only [updL_nil, updL_cons] <;> rfl)); (case hl => (simp only [List.map_cons, List.map_nil] <;> rfl)); (case hp => first | trivial | omega))
 | (apply sl_case; (case hv => (simp only [go_sem, *] <;> rfl)); all_goals (intro hg; (try simp only [Bool.not_true, Bool.not_false, reduceCtorEq] at hg)))
 | (refine sl_nil (And.intro (by first | exact drawOk_of (by decide +kernel) | (simp only [List.map_cons, List.map_nil]; exact drawOk_of (by decide +kernel)) | decide) ?_)))
        all_goals first
          | (refine ⟨i + 1, by omega, by omega, ?_⟩
             (apply Ghost.mk [] []; (case hdead => rfl); (case hinj => rfl); (case hV => (simp only [go_sem, *]) <;> (repeat' (first | refine And.intro ?_ ?_ | exact View.int (by first | rfl | omega | (simp; done) | (rw [wrap_i64] <;> (try simp only [Int.natCast_add]) <;> omega) | (simp [*]; done)) | exact .own rfl (by decide)))); (case hB => (simp only [go_sem, *]) <;> (repeat' (first | exact ⟨_, rfl, .rowE (by first | rfl | omega | (simp; done) | (rw [wrap_i64] <;> (try simp only [Int.natCast_add]) <;> omega) | (simp [*]; done))⟩)))))
          | (exfalso; simp only [Bool.and_true, Bool.true_and, Bool.and_false, Bool.false_and, reduceCtorEq, *] at hB; done)
    · have hlt' : ¬ (i : Int) < l.length := by omega
      have e1 : mixL D l i = D := by
        unfold mixL
        rw [List.take_of_length_le (by omega), List.drop_eq_nil_of_le (by omega), List.append_nil]
      rw [e1]
      clear hD hDa
      rw [hDE] at c3
      repeat' (first
 | (apply Awp.sreg; (case hn => (simp only [List.length_cons, List.length_nil, Nat.reduceAdd] <;> rfl)))
 | (refine st_nil ?_)
 | (apply st_a; (case hc => rfl); (case he => (simp only [go_sem, *] <;> rfl)); (case hu => (simp only [updL_nil, updL_cons] <;> rfl)); (case hp => first | trivial))
 | (apply st_cd; (case hc => (simp only [go_sem, *] <;> rfl)); (case hl => (simp only [go_sem, *] <;> rfl)); (case hn => (simp only [go_sem, *] <;> rfl)); (case hp => first | exact c3 | (have hXz := c3; simp only [go_sem, *] at hXz; exact hXz)); (case hd => first | exact .v _ | exact .any | exact .nils | (repeat' (first | exact Dry.v _ | exact Dry.any | exact Dry.nils | exact Dry.slE | refine Dry.agg ?_ | refine Dry.tup ?_ | (refine List.forall_mem_cons.2 (And.intro ?_ ?_)) | (intro cQ hQ; cases hQ; done)))); (case hm => first | decide | (simp; done)))
 | (refine Awp.ret ?_; try simp only [go_sem, *])
 | (refine Awp.skip ?_; try simp only [go_sem, *])
 | (refine Awp.exit ?_; try simp only [go_sem, *])
 | (apply Awp.cond; (case hc => (simp only [go_sem, *] <;> rfl)); all_goals (intro hg; (try simp only [Bool.not_true, Bool.not_false, reduceCtorEq] at hg)))
 | refine Awp.seq ?_)
      exact ⟨0, rfl, rfl⟩
def nD : ByteArray := ⟨⟨[68]⟩⟩
def nH1 : ByteArray := ⟨⟨[72, 49]⟩⟩
def nH2 : ByteArray := ⟨⟨[72, 50]⟩⟩
def exD : List By := [⟨nD, 300, 50⟩]
def exH : Sty := ⟨nH1, nD, 0, 0, 200, 30, 0, 100⟩
def exX : Sty := ⟨nH2, ⟨⟨[]⟩⟩, 0, 0, 100, 30, 20, 0⟩
def exA : Sty := ⟨nH2, nD, 200, 0, 100, 30, 20, 100⟩
def exB : Sty := ⟨nH2, nD, 0, 0, 100, 30, 100, 190⟩
def exS : Sty := ⟨nH2, nD, 200, 0, 100, 30, 20, 80⟩
theorem sortI_ins : sortI = isortI := sortZ_ins
theorem exFit1 : fitH exD [exH] exX 60 (fitP exD [exH] exX 60) = (exA, 0) := by
  delta fitH fitP tryD tryP startsZ placeD xsD ysD dockE
  rw [sortI_ins]
  kernel_rfl
theorem exFit2 : fitH exD [exH] exX 90 (fitP exD [exH] exX 90) = (exB, 0) := by
  delta fitH fitP tryD tryP startsZ placeD xsD ysD dockE
  rw [sortI_ins]
  kernel_rfl
theorem exDel : delayL [exH, exA] 0 10 = [⟨nH1, nD, 0, 0, 200, 30, 0, 110⟩, ⟨nH2, nD, 200, 0, 100, 30, 20, 110⟩] := by kernel_rfl
theorem exC : dockE exD [exH, exS] = 14 := by kernel_rfl
theorem exF : floodZ [exH, exA] nD = [100] := by
  delta floodZ
  rw [sortI_ins]
  kernel_rfl
theorem exDry : dryE [exH, exA, exB] nD ⟨10, 120⟩ = [⟨10, 100⟩, ⟨101, 120⟩] := by kernel_rfl
theorem stys_one1 (a : Sty) : stys [a] = [a.cells] := rfl
theorem stys_two (a b : Sty) : stys [a, b] = [a.cells, b.cells] := rfl
theorem stys_three (a b c : Sty) : stys [a, b, c] = [a.cells, b.cells, c.cells] := rfl
theorem sps_two (a b : Sp) : sps [a, b] = [a.cells, b.cells] := rfl
theorem bys_ex : bys exD = [[.v (.string nD), .v (.int .i64 300), .v (.int .i64 50)]] := rfl
theorem alive_ok : Pure Tryz.prog 11 [] (.v (.bool true)) := by
  have c1 := fit_ok exD [exH] exX 60 (by decide) (by decide)
  have c2 := fit_ok exD [exH] exX 90 (by decide) (by decide)
  have c3 := delay_two exD [exH, exA] nH1 10 0 (by decide) (by decide) (by kernel_rfl) (by kernel_rfl) (by decide) (by decide) (by kernel_rfl)
  have c4 := dcheck_ok exD [exH, exS] (by decide) (by decide)
  have c5 := floods_ok [exH, exA] nD (by decide)
  have c6 := dry_ok [exH, exA, exB] nD ⟨10, 120⟩ (by decide)
  have c7 := sameI_ok [100] (by decide)
  have c8 := same_ok [⟨10, 100⟩, ⟨101, 120⟩] (by decide)
  rw [exFit1] at c1; rw [exFit2] at c2; rw [exDel] at c3; rw [exC] at c4; rw [exF] at c5; rw [exDry] at c6
  have e1 : ∀ n : Int, (n == n) = true := by simp
  rw [bys_ex] at *
  have hi1 : ints [100] = [[.v (.int .i64 100)]] := rfl
  rw [hi1] at *
  clear hi1
  simp only [stys_one1, stys_two, stys_three, sps_two] at *
  unfold exH exX exA exB exS nD nH1 nH2 at *
  simp only [Sty.av, Sty.cells, Sp.cells, Sp.av] at *
  refine fn_pure Tryz.F11 (Nat.le_of_ble_eq_true rfl) ?_; unfold Tryz.ac11 AR AM AO
  repeat' (first
 | (apply Awp.sreg; (case hn => (simp only [List.length_cons, List.length_nil, Nat.reduceAdd] <;> rfl)))
 | (refine st_nil ?_)
 | (apply st_full (d := some 16); (case hr => (simp only [go_sem, *] <;> rfl)); (case hn => (simp; done)); (case hp => (first | (simp; done))))
 | (apply st_full (d := some 13); (case hr => (simp only [go_sem, *] <;> rfl)); (case hn => (simp; done)); (case hp => (first | (simp; done))))
 | (apply st_a; (case hc => rfl); (case he => (simp only [go_sem, *] <;> rfl)); (case hu => (simp only [updL_nil, updL_cons] <;> rfl)); (case hp => first | trivial | (simp; done)))
 | (apply st_m; (case hc => rfl); (case hg => (simp only [go_sem, *] <;> rfl)); (case he => (intro hQz; (try simp only [wantB_t, wantB_f, Bool.and_eq_true, Bool.not_eq_true', Bool.not_true, Bool.not_false, and_true, true_and] at hQz); simp only [go_sem, *] <;> rfl)); (case hp => (intro hQz; (try simp only [wantB_t, wantB_f, Bool.and_eq_true, Bool.not_eq_true', Bool.or_eq_false_iff, decide_eq_true_eq, decide_eq_false_iff_not, beq_iff_eq, beq_eq_false_iff_ne, bne_iff_ne, bne_eq_false_iff_eq, Int.not_lt, Int.not_le, Int.ofNat_lt, Int.ofNat_le] at hQz); first | trivial)))
 | (apply st_c; (case hc => (simp only [go_sem, *] <;> rfl)); (case hl => (simp only [go_sem, *] <;> rfl)); (case hn => (simp only [go_sem, *] <;> rfl)); (case hp => first | exact c1 | (have hXz := c1; simp only [go_sem, *] at hXz; exact hXz)))
 | (apply st_c; (case hc => (simp only [go_sem, *] <;> rfl)); (case hl => (simp only [go_sem, *] <;> rfl)); (case hn => (simp only [go_sem, *] <;> rfl)); (case hp => first | exact c2 | (have hXz := c2; simp only [go_sem, *] at hXz; exact hXz)))
 | (apply st_ct; (case hc => (simp only [go_sem, *] <;> rfl)); (case hl => (simp only [go_sem, *] <;> rfl)); (case hn => (simp only [go_sem, *] <;> rfl)); (case hp => first | exact c3 | (have hXz := c3; simp only [go_sem, *] at hXz; exact hXz)); (case hd => first | exact .inl rfl | (refine .inr ?_; first | exact sps_dry _ | exact ints_dry _ | exact stys_dry _ | (repeat' (first | exact Dry.v _ | exact Dry.any | exact Dry.nils | exact Dry.slE | refine Dry.agg ?_ | refine Dry.tup ?_ | (refine List.forall_mem_cons.2 (And.intro ?_ ?_)) | (intro cQ hQ; cases hQ; done))))); (case hm => first | decide | (simp; done)))
 | (apply st_cd; (case hc => (simp only [go_sem, *] <;> rfl)); (case hl => (simp only [go_sem, *] <;> rfl)); (case hn => (simp only [go_sem, *] <;> rfl)); (case hp => first | exact c4 | (have hXz := c4; simp only [go_sem, *] at hXz; exact hXz)); (case hd => first | exact .v _ | exact .any | exact .nils | (repeat' (first | exact Dry.v _ | exact Dry.any | exact Dry.nils | exact Dry.slE | refine Dry.agg ?_ | refine Dry.tup ?_ | (refine List.forall_mem_cons.2 (And.intro ?_ ?_)) | (intro cQ hQ; cases hQ; done)))); (case hm => first | decide | (simp; done)))
 | (apply st_cod; (case hc => (simp only [go_sem, *] <;> rfl)); (case hl => (simp only [go_sem, *] <;> rfl)); (case hn => (simp only [go_sem, *] <;> rfl)); (case hp => first | exact c5 | (have hXz := c5; simp only [go_sem, *] at hXz; exact hXz)); (case hd => first | exact sps_dry _ | exact ints_dry _ | (repeat' (first | exact Dry.v _ | exact Dry.any | exact Dry.nils | exact Dry.slE | refine Dry.agg ?_ | refine Dry.tup ?_ | (refine List.forall_mem_cons.2 (And.intro ?_ ?_)) | (intro cQ hQ; cases hQ; done)))); (case hm => first | decide | (simp; done)))
 | (apply st_cod; (case hc => (simp only [go_sem, *] <;> rfl)); (case hl => (simp only [go_sem, *] <;> rfl)); (case hn => (simp only [go_sem, *] <;> rfl)); (case hp => first | exact c6 | (have hXz := c6; simp only [go_sem, *] at hXz; exact hXz)); (case hd => first | exact sps_dry _ | exact ints_dry _ | (repeat' (first | exact Dry.v _ | exact Dry.any | exact Dry.nils | exact Dry.slE | refine Dry.agg ?_ | refine Dry.tup ?_ | (refine List.forall_mem_cons.2 (And.intro ?_ ?_)) | (intro cQ hQ; cases hQ; done)))); (case hm => first | decide | (simp; done)))
 | (apply st_cd; (case hc => (simp only [go_sem, *] <;> rfl)); (case hl => (simp only [go_sem, *] <;> rfl)); (case hn => (simp only [go_sem, *] <;> rfl)); (case hp => first | exact c7 | (have hXz := c7; simp only [go_sem, *] at hXz; exact hXz)); (case hd => first | exact .v _ | exact .any | exact .nils | (repeat' (first | exact Dry.v _ | exact Dry.any | exact Dry.nils | exact Dry.slE | refine Dry.agg ?_ | refine Dry.tup ?_ | (refine List.forall_mem_cons.2 (And.intro ?_ ?_)) | (intro cQ hQ; cases hQ; done)))); (case hm => first | decide | (simp; done)))
 | (apply st_cd; (case hc => (simp only [go_sem, *] <;> rfl)); (case hl => (simp only [go_sem, *] <;> rfl)); (case hn => (simp only [go_sem, *] <;> rfl)); (case hp => first | exact c8 | (have hXz := c8; simp only [go_sem, *] at hXz; exact hXz)); (case hd => first | exact .v _ | exact .any | exact .nils | (repeat' (first | exact Dry.v _ | exact Dry.any | exact Dry.nils | exact Dry.slE | refine Dry.agg ?_ | refine Dry.tup ?_ | (refine List.forall_mem_cons.2 (And.intro ?_ ?_)) | (intro cQ hQ; cases hQ; done)))); (case hm => first | decide | (simp; done)))
 | (apply st_g; (case hv => (simp only [go_sem, *] <;> rfl)); all_goals (intro hg; (try simp only [Bool.not_true, Bool.not_false, reduceCtorEq] at hg)))
 | (refine Awp.ret ?_; try simp only [go_sem, *])
 | (refine Awp.skip ?_; try simp only [go_sem, *])
 | (apply Awp.cond; (case hc => (simp only [go_sem, *] <;> rfl)); all_goals (intro hg; (try simp only [Bool.not_true, Bool.not_false, reduceCtorEq] at hg)))
 | refine Awp.seq ?_)
  all_goals first | exact Lower.bool rfl | (exfalso; exact absurd hg (by decide +kernel)) | (exfalso; clear c1 c2 c3 c4 c5 c6 c7 c8; simp_all; done)
end Go.Proofs
namespace Go.Proofs
open Go Go.Ab
theorem fs_congr {α β : Type} {f g : α → Option β} : ∀ {l : List α}, (∀ a ∈ l, f a = g a) → l.findSome? f = l.findSome? g
  | [], _ => rfl
  | a :: l, h => by
    rw [List.findSome?_cons, List.findSome?_cons, h a (by simp), fs_congr fun b hb => h b (by simp [hb])]
theorem fs_none {α β : Type} {f : α → Option β} {l : List α} (h : ∀ a ∈ l, f a = none) : l.findSome? f = none := by
  rw [List.findSome?_eq_none_iff]; exact h
theorem fs_two {β : Type} {f g : Int → Option β} {S R : List Int} (hS : S.Pairwise (· < ·)) (hR : R.Pairwise (· < ·)) (hsub : ∀ e ∈ R, e ∈ S) (hfg : ∀ e ∈ S, f e = g e)
    (red : ∀ e ∈ S, (g e).isSome = true → ∃ e' ∈ R, e' ≤ e ∧ (g e').isSome = true) : S.findSome? f = R.findSome? g := by
  rw [fs_congr hfg]
  have hS' : S.Pairwise (· ≤ ·) := hS.imp fun h => Int.le_of_lt h
  have hR' : R.Pairwise (· ≤ ·) := hR.imp fun h => Int.le_of_lt h
  cases hB : S.findSome? g with
  | none =>
    rw [List.findSome?_eq_none_iff] at hB
    rw [fs_none fun e he => hB e (hsub e he)]
  | some o =>
    obtain ⟨x, hx, hgx, hmin⟩ := fs_asc hS' hB
    obtain ⟨e', he', hle, hs'⟩ := red x hx (by rw [hgx]; rfl)
    have h1 := hmin e' (hsub e' he') hs'
    have h2 : e' = x := by omega
    subst h2
    cases hC : R.findSome? g with
    | none =>
      rw [List.findSome?_eq_none_iff] at hC
      rw [hC e' he'] at hs'; cases hs'
    | some o' =>
      obtain ⟨y, hy, hgy, hminy⟩ := fs_asc hR' hC
      have h3 := hminy e' he' hs'
      have h4 := hmin y (hsub y hy) (by rw [hgy]; rfl)
      have h5 : y = e' := by omega
      subst h5
      rw [← hgx, hgy]
theorem mem_endsL (l : List Sty) (fr e : Int) : e ∈ endsL l fr ↔ e = fr ∨ ∃ b ∈ l, fr < b.b ∧ b.b = e := by
  unfold endsL
  simp only [List.mem_cons, List.mem_map, List.mem_filter, decide_eq_true_eq, and_assoc]
theorem mem_startsZ (l : List Sty) (fr e : Int) : e ∈ startsZ l fr ↔ e = fr ∨ ∃ b ∈ l, fr < b.b ∧ b.b = e := by
  unfold startsZ
  rw [mem_cs, mem_endsL]
theorem mem_endsC (l : List Sty) (d : By) (fr e : Int) : e ∈ endsC l d fr ↔ e = fr ∨ ∃ b ∈ l, b.bay.toList = d.nm.toList ∧ fr < b.b ∧ b.b = e := by
  unfold endsC
  rw [mem_cs]
  unfold endsD endD
  simp only [List.mem_cons, List.mem_map, List.mem_filter, Bool.and_eq_true, beq_iff_eq, decide_eq_true_eq, and_assoc]
theorem atD_late {bs : List By} {l : List Sty} {x : Sty} (h : 1048576 < x.b) : atD bs l x = none := by
  unfold atD
  cases hs : scanE (atOk bs l x) (Lib.compact (sortI (ysA l x))) (Lib.compact (sortI (xsA l x))) with
  | none => rfl
  | some o =>
    exfalso
    have h1 := scanE_some hs
    unfold atOk at h1
    rw [beq_iff_eq] at h1
    obtain ⟨hb, _, hg, _⟩ := (checkE_iff bs _).1 ((dockE_iff bs _).1 h1).1
    have := good_box hb (hg (x.at_ o.1 o.2) (by simp))
    simp only [Sty.at_] at this
    omega
structure Call (bs : List By) (l : List Sty) (x : Sty) (h : Int) : Prop where
  ok : dockE bs l = 0
  id : idB x.item = true
  new : l.any (hullB x.item) = false
  rng : fitB x h = false
  room : ¬ (128 : Int) ≤ l.length
section
variable {bs : List By} {l : List Sty} {x : Sty} {h : Int}
theorem Call.bays (c : Call bs l x h) : baysOk bs := ((checkE_iff bs l).1 ((dockE_iff bs l).1 c.ok).1).1
theorem Call.box (c : Call bs l x h) {b : Sty} (hb : b ∈ l) : 0 ≤ b.a ∧ b.a < b.b ∧ b.b ≤ 1048576 := by
  have := good_box c.bays (((checkE_iff bs l).1 ((dockE_iff bs l).1 c.ok).1).2.2.1 b hb)
  omega
theorem Call.nums (c : Call bs l x h) : 1 ≤ x.len ∧ x.len ≤ 524288 ∧ 1 ≤ x.wid ∧ x.wid ≤ 524288 ∧ 1 ≤ h ∧ h ≤ 1048576 ∧ 0 ≤ x.a ∧ x.a ≤ 1048576 := by
  have := c.rng
  unfold fitB at this
  simp only [Bool.or_eq_false_iff, Bool.not_eq_false', Bool.and_eq_true, decide_eq_true_eq] at this
  omega
theorem Call.asked (c : Call bs l x h) {d : By} (hd : d ∈ bs) {t e : Int} (h0 : 0 ≤ t) (h1 : t < e) (h2 : e ≤ 1048576) : Asked bs l d (askd x d.nm t e) := by
  obtain ⟨i, hi, hdi⟩ := List.getElem_of_mem hd
  have hg : bs.getD i zeroBy = d := by rw [← hdi]; simp [List.getD_eq_getElem?_getD, hi]
  have hf := findB_self c.bays hi
  rw [hg] at hf
  have hn := c.nums
  have hl := c.room
  refine ⟨c.ok, by omega, fun b hb he => ?_, c.id, hf, rfl, ⟨hn.1, hn.2.1⟩, ⟨hn.2.2.1, hn.2.2.2.1⟩, ⟨h0, h1, h2⟩⟩
  have := List.any_eq_false.1 c.new b hb
  unfold hullB at this
  rw [beq_iff_eq] at this
  exact this he
theorem try_eq (c : Call bs l x h) {d : By} (hd : d ∈ bs) {t : Int} (h0 : 0 ≤ t) (h1 : t ≤ 1048576) : tryD l x h t d = tryE bs l x h t d := by
  have hn := c.nums
  unfold tryD tryE
  rw [wrap_i64 (n := t + h) (by omega) (by omega)]
  by_cases hbig : 1048576 < t + h
  · rw [fs_none (f := tryP l x t d), fs_none (f := tryA bs l x t d)]
    · intro e he
      rw [mem_endsC] at he
      rcases he with rfl | ⟨b, hb, _, h3, h4⟩
      · exact atD_late (by simp only [askd]; exact hbig)
      · have := c.box hb; omega
    · intro e he
      rw [mem_startsZ] at he
      have : 1048576 < e := by
        rcases he with rfl | ⟨b, hb, h3, h4⟩
        · exact hbig
        · have := c.box hb; omega
      unfold tryP
      rw [if_pos (by simpa using this)]
  · have hE : ∀ e ∈ startsZ l (t + h), t + h ≤ e ∧ e ≤ 1048576 := fun e he => by
      rw [mem_startsZ] at he
      rcases he with rfl | ⟨b, hb, h3, h4⟩
      · omega
      · have := c.box hb; omega
    refine fs_two (cs_asc _) (cs_asc _) (fun e he => ?_) (fun e he => ?_) (fun e he hs => ?_)
    · rw [mem_endsC] at he
      rw [mem_startsZ]
      rcases he with rfl | ⟨b, hb, _, h3, h4⟩
      · exact .inl rfl
      · exact .inr ⟨b, hb, h3, h4⟩
    · have := hE e he
      unfold tryP tryA
      rw [if_neg (by simp; omega)]
      exact place_at (c.asked hd h0 (by omega) (by omega))
    · have hb := hE e he
      by_cases hR : e ∈ endsC l d (t + h)
      · exact ⟨e, hR, Int.le_refl _, hs⟩
      · refine ⟨t + h, (mem_endsC _ _ _ _).2 (.inl rfl), by omega, ?_⟩
        have ha := c.asked hd h0 (t := t) (e := e) (by omega) (by omega)
        have ha2 := c.asked hd h0 (t := t) (e := t + h) (by omega) (by omega)
        unfold tryA at hs ⊢
        cases hy : atD bs l (askd x d.nm t e) with
        | none => rw [hy] at hs; cases hs
        | some y =>
          obtain ⟨X, Y, _, hF⟩ := at_is ha hy
          refine at_some ha2 (X := X) (Y := Y) ?_
          obtain ⟨f1, f2, f3, f4, f5⟩ := hF
          refine ⟨f1, f2, f3, f4, fun b hbl e1 e2 e3 => ?_⟩
          exfalso
          simp only [Sty.at_, askd] at e1 e2 e3
          have k := (f5 b hbl e1 (by simp only [Sty.at_, askd]; omega) (by simpa only [Sty.at_, askd] using e3)).1
          simp only [Sty.at_, askd] at k
          refine hR ((mem_endsC _ _ _ _).2 ?_)
          by_cases he2 : e = t + h
          · exact .inl he2
          · exact .inr ⟨b, hbl, e1, by omega, k⟩
theorem fitP_eq (c : Call bs l x h) : fitP bs l x h = fitR bs l x h := by
  have hn := c.nums
  unfold fitP fitR
  refine fs_congr fun t ht => fs_congr fun d hd => try_eq c hd ?_ ?_
  · rw [mem_startsZ] at ht
    rcases ht with rfl | ⟨b, hb, h3, h4⟩
    · omega
    · have := c.box hb; omega
  · rw [mem_startsZ] at ht
    rcases ht with rfl | ⟨b, hb, h3, h4⟩
    · omega
    · have := c.box hb; omega
end
end Go.Proofs
namespace Go.Proofs
open Go Go.Ab
set_option maxHeartbeats 8000000
set_option maxRecDepth 100000
attribute [local irreducible] Awp aops aopsL Go.Ab.Pure PureOwn
structure Pl where
  bays : List By
  stays : List Sty
def Pl.av (p : Pl) : AV := .agg [.sl (bys p.bays), .sl (stys p.stays)]
attribute [go_sem] Pl.av
end Go.Proofs
namespace Go.Ab
open Go.ChangeShapes Go.WideShapes Go.RowKit

theorem Keeps.below {W W' : World} (h : Keeps W W') : Below W.heap.size W W' := ⟨h.os, h.tape, h.out, h.size, h.heap⟩

section
variable {H : Type} {enc : TypeId × Value → H} {P : Program}

theorem trodAll_keeps (hl : laidOutB P = true) {W W' : World} {sp : Nat → Bool} (hb : Below W.heap.size W W') :
    ∀ {ts : List TypeId} {vs : List Value} {ds : List (DataW H)} {ps : List MemPlace}, (∀ t ∈ ts, P.readableRec t = true ∧ t < P.types.size) → (∀ x ∈ ps, x.block < W.heap.size) → (∀ x ∈ ps, sp x.block = true) →
      DataW.TrodAll enc P W 0 (fun _ => true) true ts vs ds ps → DataW.TrodAll enc P W' 0 sp true ts vs ds ps
  | [], _, _, _, _, _, _, h => by
    obtain ⟨rfl, rfl, rfl⟩ := trodAll_nil h
    exact trodAll_mk0
  | t :: ts, _, _, _, hts, hlt, hsp, h => by
    obtain ⟨v, vs, d, ds, a, b, rfl, rfl, rfl, h1, h2⟩ := trodAll_cons h
    obtain ⟨hr, hrow⟩ := hts t (List.mem_cons.2 (.inl rfl))
    refine trodAll_cons_mk (WideElems.Trod_stays hl hr hrow h1 (fun x hx => hb.same (hlt x ?_)) (fun x hx => hsp x ?_)) (trodAll_keeps hl hb (fun u hu => hts u (List.mem_cons.2 (.inr hu))) (fun x hx => hlt x ?_) (fun x hx => hsp x ?_) h2)
    all_goals simp [hx]

theorem post_true {f : Func} {s : ChangeSpec} {apart fresh handsOn again : Bool} {W W' : World} {args : Array Value} {ds gs : List (DataW H)} {before : List MemPlace} {tb : TypeId}
    (hl : laidOutB P = true) (htb' : (f.params.toList.all fun t => P.readableRec t && decide (t < P.types.size)) = true) (hrt : f.resultTypes = #[tb]) (htb : P.underlying tb = some .bool) (hs : s.vars = [])
    (hW : DataW.Whole enc P f.params.toList s.vars apart W args.toList ds gs before) (hb : Below W.heap.size W W')
    (hf : (s.fn H (ds ++ gs)).results = [.lit (.bool true)] ∧ (s.fn H (ds ++ gs)).args = ds ∧ (s.fn H (ds ++ gs)).vars = []) :
    s.post enc P f apart fresh handsOn again W args (.bool true) W' := by
  have hts : ∀ t ∈ f.params.toList, P.readableRec t = true ∧ t < P.types.size := fun t ht => by simpa using List.all_eq_true.1 htb' t ht
  have hW' := hW
  obtain ⟨p, q, hA, hV, hpq, hz, hn⟩ := hW
  have hV0 : gs = [] ∧ q = [] := by rw [hs] at hV; exact trodVars_none hV
  obtain ⟨rfl, rfl⟩ := hV0
  obtain rfl : before = p := by simpa using hpq
  obtain ⟨f1, f2, f3⟩ := hf
  have hlt : ∀ x ∈ before, x.block < W.heap.size := fun x hx => hW'.lt x hx
  have hargs : ∀ sp : Nat → Bool, (∀ x ∈ before, sp x.block = true) → DataW.TrodAll enc P W' 0 sp true f.params.toList args.toList (s.fn H (ds ++ [])).args before := fun sp hsp => by
    rw [f2]; exact trodAll_keeps hl hb hts hlt hsp hA
  have hvars : ∀ sp : Nat → Bool, DataW.TrodVars enc P W' sp s.vars (s.fn H (ds ++ [])).vars [] := fun sp => by rw [f3, hs]; rfl
  have hres : ∀ (b : Nat) (sp : Nat → Bool) (hd : Bool), DataW.TrodAll enc P W' b sp hd f.resultTypes.toList ((Value.bool true).resultList f.resultTypes.size) (s.fn H (ds ++ [])).results [] := fun b sp hd => by
    rw [f1, hrt]; exact trodAll_cons_mk (shut_bool htb _) trodAll_mk0
  have hold : ∀ x ∈ before, (fun b => decide (b < W.heap.size)) x.block = true := fun x hx => by simpa using hlt x hx
  refine ⟨ds, [], before, [], before, [], hW', hres _ _ _, hargs _ hold, hvars _, World.keptBut_mono (fun x hx => ⟨hx, .inr (by simpa using hx)⟩) (hb.frame (· ∈ before)), fun _ => ⟨?_, _, _, ([] ++ before) ++ [], ⟨[] ++ before, [], trodAll_append (hargs _ fun _ _ => rfl) (hres _ _ _), hvars _, rfl, ?_, ?_⟩, ?_⟩⟩
  · exact ok_one hrt rfl (okWide_bool_mk htb _)
  · intro b off hp
    have hp' : MemPlace.cell b off ∈ before := by simpa using hp
    rw [hb.frozen (p := ⟨b, off, none⟩) (hlt _ hp')]
    exact hz b off hp'
  · intro ha
    simpa using hn ha
  · intro x hx _
    simpa using hx

theorem pargs3 {w : World} {a0 a1 a2 : AV} {c0 c1 c2 : Value} (h0 : PureV (fun g => g < w.heap.size ∧ True) w a0 c0) (h1 : PureV (fun g => g < w.heap.size ∧ True) w a1 c1) (h2 : PureV (fun g => g < w.heap.size ∧ True) w a2 c2) : PArgs (fun _ => True) w [a0, a1, a2] [c0, c1, c2] :=
  ⟨rfl, fun j hj => by match j, hj with | 0, _ => exact h0 | 1, _ => exact h1 | 2, _ => exact h2⟩
/-- A contract that says 'true', at a call whose arguments read so: the row's 'post'. -/
theorem calls_true {f : Func} {fid : FuncId} {s : ChangeSpec} {apart fresh handsOn again : Bool} {W : World} {asz : List AV} {cs : List Value} {ds gs : List (DataW H)} {before : List MemPlace} {tb : TypeId}
    (hl : laidOutB P = true) (htb' : (f.params.toList.all fun t => P.readableRec t && decide (t < P.types.size)) = true) (hrt : f.resultTypes = #[tb]) (htb : P.underlying tb = some .bool) (hs : s.vars = [])
    (hW : DataW.Whole enc P f.params.toList s.vars apart W cs.toArray.toList ds gs before) (hf : (s.fn H (ds ++ gs)).results = [.lit (.bool true)] ∧ (s.fn H (ds ++ gs)).args = ds ∧ (s.fn H (ds ++ gs)).vars = [])
    (hc : Pure P fid asz (.v (.bool true))) (ha : PArgs (fun _ => True) W asz cs) :
    Calls P fid cs.toArray W fun e W' => ∃ v, e = .returned v ∧ s.post enc P f apart fresh handsOn again W cs.toArray v W' := by
  refine (hc.2 _ W cs ha).mono fun e W' ⟨c, he, hk, hv⟩ => ?_
  obtain rfl : c = .bool true := by cases hv; rfl
  exact ⟨_, he, post_true hl htb' hrt htb hs hW hk.below hf⟩
end
end Go.Ab
namespace Go.Ab
open Go.ChangeShapes Go.WideShapes Go.RowKit

/-- Fields that lie one behind the other. -/
def tiledTo (P : Program) (off : Nat) : List Field → Nat → Bool
  | [], e => off == e
  | f :: fs, e => f.offset == off && tiledTo P (off + P.cellsOf f.type) fs e

def readsTy (P : Program) : Nat → TypeId → Bool
  | 0, _ => false
  | n + 1, t => match P.underlying t with
    | some (.int _) | some .bool | some .string => P.cellsOf t == 1
    | some (.struct fs) => tiledTo P 0 fs.toList (P.cellsOf t) && fs.toList.all fun f => readsTy P n f.type
    | some (.slice e) => P.cellsOf t == 1 && decide (0 < P.cellsOf e) && readsTy P n e
    | some (.array k e) => P.cellsOf t == k * P.cellsOf e && readsTy P n e
    | _ => false

def FieldsShape (S : TypeId → List AV → Prop) : List TypeId → List AV → Prop
  | [], asz => asz = []
  | t :: ts, asz => ∃ p q, asz = p ++ q ∧ S t p ∧ FieldsShape S ts q

/-- The cells of a value of a type. -/
def Shape (P : Program) : Nat → TypeId → List AV → Prop
  | 0, _, _ => False
  | n + 1, t, asz => match P.underlying t with
    | some (.int k) => ∃ i, asz = [.v (.int k i)] ∧ (Lit.int k i).wf = true
    | some .bool => ∃ b, asz = [.v (.bool b)]
    | some .string => ∃ s : ByteArray, asz = [.v (.string s)] ∧ s.size ≤ maxLen
    | some (.struct fs) => FieldsShape (Shape P n) (fs.toList.map (·.type)) asz
    | some (.slice e) => ∃ es, asz = [.sl es] ∧ es.length ≤ maxLen ∧ ∀ r ∈ es, Shape P n e r
    | some (.array k e) => ∃ rs : List (List AV), asz = rs.flatten ∧ rs.length = k ∧ ∀ r ∈ rs, Shape P n e r
    | _ => False

theorem av_append_left {p q : List AV} {j : Nat} (h : j < p.length) : av (p ++ q) j = av p j := by
  simp [av, List.getD_eq_getElem?_getD, List.getElem?_append_left h]
theorem av_append_right {p q : List AV} {j : Nat} (h : p.length ≤ j) : av (p ++ q) j = av q (j - p.length) := by
  simp [av, List.getD_eq_getElem?_getD, List.getElem?_append_right h]
theorem cv_piece {cs : List Value} {o k j : Nat} (h : j < k) : cv ((cs.drop o).take k) j = cv cs (o + j) := by
  simp [cv, List.getD_eq_getElem?_getD, List.getElem?_take_of_lt h, List.getElem?_drop]

theorem lists {α : Type} {Q : Nat → α → Prop} : ∀ (n : Nat), (∀ i, i < n → ∃ a, Q i a) → ∃ l : List α, l.length = n ∧ ∀ i a, l[i]? = some a → Q i a
  | 0, _ => ⟨[], rfl, fun i a h => by simp at h⟩
  | n + 1, h => by
    obtain ⟨l, hl, hq⟩ := lists n fun i hi => h i (by omega)
    obtain ⟨a, ha⟩ := h n (by omega)
    refine ⟨l ++ [a], by simp [hl], fun i b hb => ?_⟩
    rcases Nat.lt_or_ge i n with hi | hi
    · rw [List.getElem?_append_left (by omega)] at hb; exact hq i b hb
    · rw [List.getElem?_append_right (by omega)] at hb
      by_cases e : i - l.length = 0
      · rw [e] at hb
        obtain rfl : a = b := by simpa using hb
        obtain rfl : i = n := by omega
        exact ha
      · rw [List.getElem?_eq_none (by simp; omega)] at hb; simp at hb

def CellsOk (w : World) (asz : List AV) (cs : List Value) (o : Nat) : Prop :=
  ∀ j, j < asz.length → PureV (fun g => g < w.heap.size) w (av asz j) (cv cs (o + j)) ∧ (cv cs (o + j)).oneCell' = true

theorem CellsOk.append {w : World} {p q : List AV} {cs : List Value} {o : Nat} (h1 : CellsOk w p cs o) (h2 : CellsOk w q cs (o + p.length)) : CellsOk w (p ++ q) cs o := by
  intro j hj
  rcases Nat.lt_or_ge j p.length with h | h
  · rw [av_append_left h]; exact h1 j h
  · rw [av_append_right h]
    have := h2 (j - p.length) (by simp at hj; omega)
    rwa [show o + p.length + (j - p.length) = o + j by omega] at this

section
variable {H : Type} {enc : TypeId × Value → H} {P : Program} {w : World} {spare : Nat → Bool} {held : Bool}

theorem read_fields {S : TypeId → List AV → Prop} {cs : List Value} : ∀ (fs : List Field) (o e : Nat), tiledTo P o fs e = true → e ≤ cs.length →
    (∀ f ∈ fs, ∃ asz, S f.type asz ∧ asz.length = P.cellsOf f.type ∧ CellsOk w asz cs f.offset) → ∃ asz, FieldsShape S (fs.map (·.type)) asz ∧ o + asz.length = e ∧ CellsOk w asz cs o
  | [], o, e, ht, _, _ => ⟨[], rfl, by simpa [tiledTo] using ht, fun j hj => by simp at hj⟩
  | f :: fs, o, e, ht, he, hf => by
    simp only [tiledTo, Bool.and_eq_true, beq_iff_eq] at ht
    obtain ⟨p, hp, hpl, hpc⟩ := hf f (List.mem_cons.2 (.inl rfl))
    obtain ⟨q, hq, hql, hqc⟩ := read_fields fs _ e ht.2 he fun g hg => hf g (List.mem_cons.2 (.inr hg))
    rw [ht.1] at hpc
    rw [← hpl] at hqc hql
    exact ⟨p ++ q, ⟨p, q, rfl, hp, hq⟩, by simp; omega, hpc.append hqc⟩

theorem read_rows {S : List AV → Prop} {cs : List Value} {sz : Nat} : ∀ (k o : Nat),
    (∀ i, i < k → ∃ asz, S asz ∧ asz.length = sz ∧ CellsOk w asz cs (o + i * sz)) → ∃ rs : List (List AV), rs.length = k ∧ (∀ r ∈ rs, S r) ∧ rs.flatten.length = k * sz ∧ CellsOk w rs.flatten cs o
  | 0, o, _ => ⟨[], rfl, by simp, by simp, fun j hj => by simp at hj⟩
  | k + 1, o, h => by
    obtain ⟨p, hp, hpl, hpc⟩ := h 0 (by omega)
    obtain ⟨rs, hl, hs, hf, hc⟩ := read_rows k (o + sz) fun i hi => by
      obtain ⟨asz, h1, h2, h3⟩ := h (i + 1) (by omega)
      exact ⟨asz, h1, h2, by rwa [show o + sz + i * sz = o + (i + 1) * sz by rw [Nat.add_mul]; omega]⟩
    refine ⟨p :: rs, by simp [hl], fun r hr => ?_, by simp [hf, hpl, Nat.add_mul, Nat.add_comm], ?_⟩
    · rcases List.mem_cons.1 hr with rfl | hr
      · exact hp
      · exact hs r hr
    · simp only [List.flatten_cons]
      refine CellsOk.append (by simpa using hpc) (by rw [hpl]; exact hc)

theorem read_ty : ∀ (n : Nat) (t : TypeId), readsTy P n t = true → ∀ {fuel : Nat} {cs : List Value} {x : DataW H × List MemPlace}, DataW.trod enc P w 0 spare held fuel t cs = some x →
    cs.length = P.cellsOf t ∧ ∃ asz, Shape P n t asz ∧ asz.length = cs.length ∧ CellsOk w asz cs 0
  | 0, t, ht, _, _, _, _ => by simp [readsTy] at ht
  | n + 1, t, ht, fuel, cs, x, h => by
    unfold readsTy at ht
    unfold Shape
    split at ht
    · rename_i k hu
      obtain ⟨i, rfl, _, hw⟩ := DataW.trod_int hu h
      exact ⟨by simpa using (by simpa using ht : P.cellsOf t = 1).symm, _, ⟨i, rfl, hw⟩, rfl, fun j hj => by match j, hj with | 0, _ => exact ⟨.v _, rfl⟩⟩
    · rename_i hu
      obtain ⟨b, rfl, _⟩ := DataW.trod_bool hu h
      exact ⟨by simpa using (by simpa using ht : P.cellsOf t = 1).symm, _, ⟨b, rfl⟩, rfl, fun j hj => by match j, hj with | 0, _ => exact ⟨.v _, rfl⟩⟩
    · rename_i hu
      obtain ⟨s, rfl, _, hw⟩ := DataW.trod_string hu h
      exact ⟨by simpa using (by simpa using ht : P.cellsOf t = 1).symm, _, ⟨s, rfl, hw⟩, rfl, fun j hj => by match j, hj with | 0, _ => exact ⟨.v _, rfl⟩⟩
    · rename_i fs hu
      simp only [Bool.and_eq_true, List.all_eq_true] at ht
      obtain ⟨xs, m, _, _, hl, hlen, hf⟩ := DataW.trod_struct hu h
      refine ⟨hl, ?_⟩
      obtain ⟨asz, h1, h2, h3⟩ := read_fields (S := Shape P n) (w := w) (cs := cs) fs.toList 0 (P.cellsOf t) ht.1 (by omega) fun f hfm => by
        obtain ⟨i, hi, hfi⟩ := List.getElem_of_mem hfm
        have hi' : i < fs.size := by simpa using hi
        have e1 : fs[i]? = some f := by rw [Array.getElem?_eq_getElem hi']; simpa using hfi
        have h4 := hf i f e1
        obtain ⟨y, hy⟩ : ∃ y, xs[i]? = some y := ⟨_, List.getElem?_eq_getElem (by omega)⟩
        rw [hy] at h4
        obtain ⟨k1, asz, k2, k3, k4⟩ := read_ty n f.type (ht.2 f hfm) h4
        refine ⟨asz, k2, by omega, fun j hj => ?_⟩
        have := k4 j hj
        rw [Nat.zero_add, cv_piece (by omega)] at this
        exact this
      exact ⟨asz, h1, by omega, h3⟩
    · rename_i e hu
      simp only [Bool.and_eq_true, decide_eq_true_eq, beq_iff_eq] at ht
      rcases DataW.trod_slice hu h with ⟨rfl, _⟩ | ⟨a, len, cap, elems, rest, m, _, rfl, _, hb, hl, hm, hlen, hel, _, _⟩
      · exact ⟨by simpa using ht.1.1.symm, _, ⟨[], rfl, by simp, by simp⟩, rfl, fun j hj => by match j, hj with | 0, _ => exact ⟨.slE none 0 (by simp), rfl⟩⟩
      · refine ⟨by simpa using ht.1.1.symm, ?_⟩
        have each : ∀ i, i < len → ∃ asz : List AV × List Value, Shape P n e asz.1 ∧ asz.1.length = P.cellsOf e ∧ (∀ j, j < P.cellsOf e → w.cell? ((a.add (i * P.cellsOf e)).add j) = some (cv asz.2 j)) ∧ CellsOk w asz.1 asz.2 0 := by
          intro i hi
          have h4 := hel i hi
          obtain ⟨y, hy⟩ : ∃ y, elems[i]? = some y := ⟨_, List.getElem?_eq_getElem (by omega)⟩
          rw [hy, Option.bind_eq_some_iff] at h4
          obtain ⟨cs', hc, ht'⟩ := h4
          obtain ⟨k1, asz, k2, k3, k4⟩ := read_ty n e ht.2 ht'
          obtain ⟨_, hcl, hca⟩ := World.cells?_some hc
          refine ⟨(asz, cs'), k2, by simp; omega, fun j hj => ?_, k4⟩
          rw [hca j hj]
          have : j < cs'.length := by omega
          simp [cv, List.getD_eq_getElem?_getD, this]
        obtain ⟨l, hll, hlq⟩ := lists len each
        by_cases h0 : len = 0
        · subst h0
          exact ⟨_, ⟨[], rfl, by simp, by simp⟩, rfl, fun j hj => by match j, hj with | 0, _ => exact ⟨.slE (some a) cap hm, rfl⟩⟩
        · have hg0 := (hlq 0 _ (List.getElem?_eq_getElem (by omega))).2.2.1 0 ht.1.2
          obtain ⟨g, off, q⟩ := a
          have hq : q = none ∧ g < w.heap.size := by
            have e0 : ((Addr.mk g off q).add (0 * P.cellsOf e)).add 0 = ⟨g, off, q⟩ := by simp [Addr.add]
            rw [e0] at hg0
            unfold World.cell? at hg0
            cases hg : w.heap[g]? with
            | none => simp [hg] at hg0
            | some o =>
              refine ⟨?_, (Array.getElem?_eq_some_iff.1 hg).1⟩
              cases q with
              | none => rfl
              | some v => cases o <;> simp [hg] at hg0
          obtain ⟨rfl, hlt⟩ := hq
          have hes : (l.map (·.1)).length = len := by simp [hll]
          have at_ : ∀ i (hi : i < len), ∃ asz, l[i]? = some asz ∧ (l.map (·.1)).getD i [] = asz.1 ∧ (fun i j => cv ((l.map (·.2)).getD i []) j) i = cv asz.2 := by
            intro i hi
            refine ⟨l[i]'(by omega), List.getElem?_eq_getElem (by omega), ?_, ?_⟩
            · simp [List.getD_eq_getElem?_getD, List.getElem?_eq_getElem (show i < l.length by omega)]
            · funext j
              simp [List.getD_eq_getElem?_getD, List.getElem?_eq_getElem (show i < l.length by omega)]
          have hp := PureV.slC (st := fun g => g < w.heap.size) (w := w) (l.map (·.1)) g off cap (P.cellsOf e) (fun i j => cv ((l.map (·.2)).getD i []) j) (by omega) hm ht.1.2 (fun e' => by rw [e'] at hes; simp at hes; omega)
            (fun r hr => by
              obtain ⟨asz, has, rfl⟩ := List.mem_map.1 hr
              obtain ⟨i, hi⟩ := List.getElem?_of_mem has
              exact (hlq i asz hi).2.1)
            hlt
            (fun i j hi hj => by
              obtain ⟨asz, ha, e1, e2⟩ := at_ i (by omega)
              have h5 := (hlq i asz ha).2.2.1 j hj
              have h6 := ((hlq i asz ha).2.2.2 j (by rw [(hlq i asz ha).2.1]; exact hj)).2
              rw [Nat.zero_add] at h6
              have e3 : cv ((l.map (·.2)).getD i []) j = cv asz.2 j := congrFun e2 j
              show w.cell? _ = some (cv ((l.map (·.2)).getD i []) j) ∧ (cv ((l.map (·.2)).getD i []) j).oneCell' = true
              rw [e3]
              refine ⟨?_, h6⟩
              rw [← h5]
              congr 1
              simp only [Addr.add]
              split <;> split <;> simp_all <;> omega)
            (fun i j hi hj => by
              obtain ⟨asz, ha, e1, e2⟩ := at_ i (by omega)
              have h6 := ((hlq i asz ha).2.2.2 j (by rw [(hlq i asz ha).2.1]; exact hj)).1
              rw [Nat.zero_add] at h6
              have e3 : cv ((l.map (·.2)).getD i []) j = cv asz.2 j := congrFun e2 j
              show PureV _ w (av ((l.map (·.1)).getD i []) j) (cv ((l.map (·.2)).getD i []) j)
              rw [e1, e3]
              exact h6)
          rw [hes] at hp
          refine ⟨[.sl (l.map (·.1))], ⟨_, rfl, by omega, fun r hr => ?_⟩, rfl, fun j hj => by match j, hj with | 0, _ => exact ⟨hp, rfl⟩⟩
          obtain ⟨asz, has, rfl⟩ := List.mem_map.1 hr
          obtain ⟨i, hi⟩ := List.getElem?_of_mem has
          exact (hlq i asz hi).1
    · rename_i k e hu
      simp only [Bool.and_eq_true, beq_iff_eq] at ht
      obtain ⟨xs, m, _, _, hl, hlen, hf⟩ := DataW.trod_array hu h
      refine ⟨hl, ?_⟩
      obtain ⟨rs, h1, h2, h3, h4⟩ := read_rows (S := Shape P n e) (w := w) (cs := cs) (sz := P.cellsOf e) k 0 fun i hi => by
        have h4 := hf i hi
        obtain ⟨y, hy⟩ : ∃ y, xs[i]? = some y := ⟨_, List.getElem?_eq_getElem (by omega)⟩
        rw [hy] at h4
        obtain ⟨k1, asz, k2, k3, k4⟩ := read_ty n e ht.2 h4
        refine ⟨asz, k2, by omega, fun j hj => ?_⟩
        have := k4 j hj
        rw [Nat.zero_add, cv_piece (by omega)] at this
        rwa [Nat.zero_add]
      exact ⟨rs.flatten, ⟨rs, rfl, h1, h2⟩, by omega, h4⟩
    · simp at ht

/-- A struct among the arguments. -/
theorem arg_struct {t : TypeId} {fs : Array Field} {r : Reach} {b0 : Nat} {v : Value} {d : DataW H} {p : List MemPlace} (n : Nat) (hu : P.underlying t = some (.struct fs)) (ht : readsTy P n t = true)
    (hval : Value.okWide P w r b0 t v) (hd : DataW.Trod enc P w 0 spare held t v d p) : ∃ asz, Shape P n t asz ∧ PureV (fun g => g < w.heap.size ∧ True) w (.agg asz) v := by
  obtain ⟨fuel, h⟩ := hd
  unfold Value.okWide at hval
  rw [hu] at hval
  obtain ⟨cs, rfl, _, _⟩ := hval
  obtain ⟨_, asz, h1, h2, h3⟩ := read_ty n t ht h
  refine ⟨asz, h1, ?_⟩
  have e : cs = cs.toList.toArray := by simp
  have h2 : asz.length = cs.toList.length := h2
  rw [e]
  refine .agg _ cs.toList h2 (fun u hu => ?_) (fun j hj => ?_)
  · obtain ⟨j, hj, rfl⟩ := List.getElem_of_mem hu
    have := (h3 j (by omega)).2
    rw [Nat.zero_add] at this
    have e2 : cv (Value.agg cs).cells.toList j = cs.toList[j] := by show cv cs.toList j = _; unfold cv; rw [List.getD_eq_getElem?_getD, List.getElem?_eq_getElem hj]; rfl
    rw [e2] at this
    exact this
  · have := (h3 j hj).1
    rw [Nat.zero_add] at this
    exact this.mono fun g hg => ⟨⟨hg, trivial⟩, rfl⟩

end

/-- The cells that a datum lays. -/
def laidVals : Nat → DataW Unit → List Value
  | 0, _ => []
  | _ + 1, .lit (.int k n) => [.int k n]
  | _ + 1, .lit (.bool b) => [.bool b]
  | _ + 1, .lit (.string s) => [.string ⟨s.toArray⟩]
  | n + 1, .agg xs => xs.flatMap (laidVals n)
  | _ + 1, _ => []

theorem map_shape {α : Type} {f : α → List AV} : ∀ {es : List (List AV)}, (∀ r ∈ es, ∃ x : α, r = f x) → ∃ l : List α, es = l.map f
  | [], _ => ⟨[], rfl⟩
  | r :: es, h => by
    obtain ⟨x, rfl⟩ := h r (List.mem_cons.2 (.inl rfl))
    obtain ⟨l, rfl⟩ := map_shape (es := es) fun q hq => h q (List.mem_cons.2 (.inr hq))
    exact ⟨x :: l, rfl⟩
end Go.Ab
namespace Go.Proofs
open Go Go.Ab Go.ChangeShapes Go.WideShapes Go.ChangeAt Go.RowKit
set_option maxRecDepth 100000
theorem rest_laid : laidOutB Tryz.prog = true := by kernel_rfl
theorem rest_own : ownKnob Tryz.prog.godebug = none := by kernel_rfl
theorem shape_sty {qs : List AV} (h : Shape Tryz.prog 3 43 qs) : ∃ x : Sty, AV.agg qs = x.av := by
  unfold Shape at h
  rw [Tryz.underlying43] at h
  simp only [List.map_cons, List.map_nil, FieldsShape] at h
  obtain ⟨_, _, rfl, h0, _, _, rfl, h1, _, _, rfl, h2, _, _, rfl, h3, _, _, rfl, h4, _, _, rfl, h5, rfl⟩ := h
  unfold Shape at h0 h1 h2 h3 h4 h5
  simp only [Tryz.underlying3, Tryz.underlying9, Tryz.underlying41, Tryz.underlying30, List.map_cons, List.map_nil, FieldsShape] at h0 h1 h2 h3 h4 h5
  obtain ⟨_, _, rfl, h20, _, _, rfl, h21, rfl⟩ := h2
  obtain ⟨_, _, rfl, h50, _, _, rfl, h51, rfl⟩ := h5
  unfold Shape at h20 h21 h50 h51
  simp only [Tryz.underlying3] at h20 h21 h50 h51
  obtain ⟨x0, rfl, _⟩ := h0
  obtain ⟨x1, rfl, _⟩ := h1
  obtain ⟨x2, rfl, _⟩ := h20
  obtain ⟨x3, rfl, _⟩ := h21
  obtain ⟨x4, rfl, _⟩ := h3
  obtain ⟨x5, rfl, _⟩ := h4
  obtain ⟨x6, rfl, _⟩ := h50
  obtain ⟨x7, rfl, _⟩ := h51
  exact ⟨⟨x0, x1, x2, x3, x4, x5, x6, x7⟩, rfl⟩
theorem shape_stys {qs : List AV} (h : Shape Tryz.prog 4 23 qs) : ∃ l : List Sty, qs = [.sl (stys l)] := by
  unfold Shape at h
  rw [Tryz.underlying23] at h
  obtain ⟨es, rfl, _, he⟩ := h
  obtain ⟨l, rfl⟩ := map_shape (f := Sty.cells) fun q hq => by
    obtain ⟨x, hx⟩ := shape_sty (he q hq)
    refine ⟨x, ?_⟩
    have : AV.agg q = .agg x.cells := hx
    injection this
  exact ⟨l, rfl⟩
theorem shape_up {n : Nat} {qs : List AV} (h : Shape Tryz.prog 4 22 qs) : ∃ l : List By, qs = [.sl (bys l)] := by
  unfold Shape at h
  rw [Tryz.underlying22] at h
  obtain ⟨es, rfl, _, he⟩ := h
  obtain ⟨l, rfl⟩ := map_shape (f := By.cells) fun q hq => by
    have h3 := he q hq
    unfold Shape at h3
    rw [Tryz.underlying53] at h3
    simp only [List.map_cons, List.map_nil, FieldsShape] at h3
    obtain ⟨_, _, rfl, h0, _, _, rfl, h1, _, _, rfl, h2, rfl⟩ := h3
    unfold Shape at h0 h1 h2
    simp only [Tryz.underlying3, Tryz.underlying9] at h0 h1 h2
    obtain ⟨x0, rfl, _⟩ := h0
    obtain ⟨x1, rfl, _⟩ := h1
    obtain ⟨x2, rfl, _⟩ := h2
    exact ⟨⟨x0, x1, x2⟩, rfl⟩
  exact ⟨l, rfl⟩
theorem shape_plan {qs : List AV} (h : Shape Tryz.prog 5 39 qs) : ∃ p : Pl, AV.agg qs = p.av := by
  unfold Shape at h
  rw [Tryz.underlying39] at h
  simp only [List.map_cons, List.map_nil, FieldsShape] at h
  obtain ⟨_, _, rfl, h0, _, _, rfl, h1, rfl⟩ := h
  obtain ⟨bs, rfl⟩ := shape_up (n := 0) h0
  obtain ⟨l, rfl⟩ := shape_stys h1
  exact ⟨⟨bs, l⟩, rfl⟩
section
variable {H : Type} {enc : TypeId × Value → H} {w : World} {spare : Nat → Bool} {held : Bool} {r : Reach} {b0 : Nat} {v : Value} {d : DataW H} {p : List MemPlace}
theorem arg_plan (hval : Value.okWide Tryz.prog w r b0 39 v) (hd : DataW.Trod enc Tryz.prog w 0 spare held 39 v d p) : ∃ x : Pl, PureV (fun g => g < w.heap.size ∧ True) w x.av v := by
  obtain ⟨qs, hs, hp⟩ := arg_struct 5 Tryz.underlying39 (by kernel_rfl) hval hd
  obtain ⟨x, e⟩ := shape_plan hs
  exact ⟨x, e ▸ hp⟩
theorem arg_sty (hval : Value.okWide Tryz.prog w r b0 43 v) (hd : DataW.Trod enc Tryz.prog w 0 spare held 43 v d p) : ∃ x : Sty, PureV (fun g => g < w.heap.size ∧ True) w x.av v := by
  obtain ⟨qs, hs, hp⟩ := arg_struct 3 Tryz.underlying43 (by kernel_rfl) hval hd
  obtain ⟨x, e⟩ := shape_sty hs
  exact ⟨x, e ▸ hp⟩
end
open YtadpljebgkfeoaaGreatDoor in
/-- The settled world, the two tables of unicode/utf8 as their initialisers lay them. -/
noncomputable def laidWorld (os : Os) : World :=
  let w0 := World.holding Tryz.prog os ⟨#[], #[], []⟩
  let put (h : Array Obj) (g : Nat) (cs : Array Value) : Array Obj := h.modify g fun
    | .cells _ t frozen => .cells cs t frozen
    | o => o
  let h1 := put w0.heap 1 (laidVals 9 Rows.laid_unicode_utf8_first).toArray
  let h2 := put h1 2 (laidVals 9 (Rows.laid_unicode_utf8_acceptRanges (H := Unit))).toArray
  { w0 with heap := h2 }
open YtadpljebgkfeoaaGreatDoor in
theorem laid_met0 (os : Os) (args : Array Value) : laidMet Tryz.prog Rows.dockChecksRow.laid ((laidWorld os).forCall (fun _ _ => 0) ⟨#[], args, []⟩).memory :=
  laidMet_of_run' 8 (by kernel_rfl) (by kernel_rfl)
end Go.Proofs
namespace Go.Proofs
open Go Go.Ab
set_option maxHeartbeats 1000000
theorem getD_of {α : Type} {l : List α} {d : α} {i : Nat} (h : i < l.length) : l.getD i d = l[i] := by simp [List.getD_eq_getElem?_getD, h]
theorem fitH_zero {bs : List By} {l : List Sty} {x : Sty} {h : Int} {o : Option Sty} (hz : (fitH bs l x h o).2 = 0) : Call bs l x h ∧ o = some (fitH bs l x h o).1 := by
  unfold fitH at hz ⊢
  by_cases h1 : dockE bs l = 0
  · rw [if_neg (by rw [h1]; simp)] at hz ⊢
    cases h2 : idB x.item
    · rw [h2] at hz; simp at hz
    · rw [h2] at hz
      rw [if_neg (by simp)] at hz ⊢
      cases h3 : l.any (hullB x.item)
      · rw [h3] at hz
        rw [if_neg (by simp)] at hz ⊢
        cases h4 : fitB x h
        · rw [h4] at hz
          rw [if_neg (by simp)] at hz ⊢
          by_cases h5 : (128 : Int) ≤ l.length
          · rw [if_pos (by simpa using h5)] at hz; simp at hz
          · rw [if_neg (by simpa using h5)] at hz ⊢
            refine ⟨⟨h1, h2, h3, h4, h5⟩, ?_⟩
            cases o with
            | none => simp at hz
            | some y => rfl
        · rw [h4] at hz; simp at hz
      · rw [h3] at hz; simp at hz
  · rw [if_pos (by simpa using h1)] at hz
    exact absurd hz h1
theorem fitH_some {bs : List By} {l : List Sty} {x z : Sty} {h : Int} (c : Call bs l x h) : fitH bs l x h (some z) = (z, 0) := by
  unfold fitH
  rw [if_neg (by rw [c.ok]; simp), if_neg (by rw [c.id]; simp), if_neg (by rw [c.new]; simp), if_neg (by rw [c.rng]; simp), if_neg (by have := c.room; simpa using this)]
section
variable {bs : List By} {l : List Sty} {x : Sty} {h : Int}
theorem starts_rng (c : Call bs l x h) {t : Int} (ht : t ∈ startsZ l x.a) : x.a ≤ t ∧ 0 ≤ t ∧ t ≤ 1048576 := by
  have hn := c.nums
  rw [mem_startsZ] at ht
  rcases ht with rfl | ⟨b, hb, h3, h4⟩
  · omega
  · have := c.box hb; omega
theorem ends_rng (c : Call bs l x h) {d : By} {t e : Int} (h0 : 0 ≤ t) (h1 : t ≤ 1048576) (he : e ∈ endsC l d (IntKind.i64.wrap (t + h))) : t + h ≤ e := by
  have hn := c.nums
  rw [wrap_i64 (by omega) (by omega), mem_endsC] at he
  rcases he with rfl | ⟨b, hb, _, h3, h4⟩ <;> omega
/-- What a search for one start and one dock finds. -/
theorem tryE_is (c : Call bs l x h) {d : By} (hd : d ∈ bs) {t : Int} (h0 : 0 ≤ t) (h1 : t ≤ 1048576) {z : Sty} (hz : tryE bs l x h t d = some z) :
    ∃ e X Y, e ∈ endsC l d (IntKind.i64.wrap (t + h)) ∧ z = (askd x d.nm t e).at_ X Y ∧ Fits l d (askd x d.nm t e) X Y ∧ e ≤ 1048576 ∧ t + h ≤ e ∧ ∀ e' ∈ endsC l d (IntKind.i64.wrap (t + h)), (atD bs l (askd x d.nm t e')).isSome = true → e ≤ e' := by
  have hn := c.nums
  unfold tryE at hz
  obtain ⟨e, he, hf, hmin⟩ := fs_asc (cs_asc2 _) hz
  have hr := ends_rng c h0 h1 he
  unfold tryA at hf
  have hle : e ≤ 1048576 := by
    rcases Int.lt_or_le 1048576 e with h2 | h2
    · rw [atD_late (x := askd x d.nm t e) h2] at hf; cases hf
    · exact h2
  obtain ⟨X, Y, h3, h4⟩ := at_is (c.asked hd h0 (by omega) hle) hf
  exact ⟨e, X, Y, he, h3, h4, hle, hr, hmin⟩
theorem first_sound (hz : (fitH bs l x h (fitP bs l x h)).2 = 0) : dockE bs (l ++ [(fitH bs l x h (fitP bs l x h)).1]) = 0 ∧ (fitH bs l x h (fitP bs l x h)).1.item = x.item ∧ (fitH bs l x h (fitP bs l x h)).1.len = x.len ∧ (fitH bs l x h (fitP bs l x h)).1.wid = x.wid
    ∧ x.a ≤ (fitH bs l x h (fitP bs l x h)).1.a ∧ (fitH bs l x h (fitP bs l x h)).1.a + h ≤ (fitH bs l x h (fitP bs l x h)).1.b ∧ (fitH bs l x h (fitP bs l x h)).1.b ≤ 1048576 := by
  obtain ⟨c, ho⟩ := fitH_zero hz
  generalize (fitH bs l x h (fitP bs l x h)).1 = z at *
  rw [fitP_eq c] at ho
  unfold fitR at ho
  obtain ⟨t, ht, hf⟩ := List.exists_of_findSome?_eq_some ho
  obtain ⟨d, hd, hf⟩ := List.exists_of_findSome?_eq_some hf
  have hr := starts_rng c ht
  have hn := c.nums
  obtain ⟨e, X, Y, he, rfl, hF, hle, hte, _⟩ := tryE_is c hd hr.2.1 hr.2.2 hf
  have ha := c.asked hd hr.2.1 (t := t) (e := e) (by omega) hle
  have := (ha.atOk X Y).2 hF
  unfold atOk at this
  rw [beq_iff_eq] at this
  exact ⟨this, rfl, rfl, rfl, hr.1, hte, hle⟩
theorem fs_first {α β : Type} {f : α → Option β} : ∀ {L : List α} {o : β} (d : α), L.findSome? f = some o → ∃ i, i < L.length ∧ f (L.getD i d) = some o ∧ ∀ j, j < i → f (L.getD j d) = none
  | [], _, _, h => by simp at h
  | a :: L, o, d, h => by
    rw [List.findSome?_cons] at h
    cases ha : f a with
    | some b =>
      rw [ha] at h
      exact ⟨0, by simp, by rw [← h]; exact ha, fun j hj => by omega⟩
    | none =>
      rw [ha] at h
      obtain ⟨i, h1, h2, h3⟩ := fs_first d h
      refine ⟨i + 1, by simpa using h1, h2, fun j hj => ?_⟩
      cases j with
      | zero => exact ha
      | succ j => exact h3 j (by omega)
theorem names_inj (hb : baysOk bs) {i j : Nat} (hi : i < bs.length) (hj : j < bs.length) (e : (bs.getD i zeroBy).nm = (bs.getD j zeroBy).nm) : bs.getD i zeroBy = bs.getD j zeroBy := by
  have h1 := findB_self hb hi
  have h2 := findB_self hb hj
  rw [e, h2] at h1
  exact (Prod.mk.inj h1).1.symm
theorem first_least (c : Call bs l x h) {y : Sty} (hy : dockE bs (l ++ [y]) = 0) (hlen : y.len = x.len) (hwid : y.wid = x.wid) (hfrom : x.a ≤ y.a) (hhrs : y.a + h ≤ y.b) :
    ∃ z, fitP bs l x h = some z ∧ z.a ≤ y.a ∧ (z.a = y.a → (∀ i, i < bs.length → (∀ j, j ≤ i → (bs.getD j zeroBy).nm ≠ z.bay) → (bs.getD i zeroBy).nm ≠ y.bay) ∧ (z.bay = y.bay → z.b ≤ y.b)) := by
  have hn := c.nums
  have hbs := c.bays
  
  obtain ⟨hyC, _, hyX⟩ := (dockE_iff bs _).1 hy
  obtain ⟨_, hl2, hgy, _⟩ := (checkE_iff bs _).1 hyC
  have gy := hgy y (by simp)
  have by_ := good_box hbs gy
  have hFree : Free l y := by
    have hnew : ∀ b ∈ l, b.item.toList ≠ y.item.toList := by
      intro b hb
      have hp := ((dockE_iff bs _).1 hy).2.1
      rw [List.pairwise_append] at hp
      exact hp.2.2 b hb y (by simp)
    exact ((dock_add c.ok hnew (by rw [List.length_append, List.length_singleton] at hl2; omega)).1 hy).2
  obtain ⟨q, hq, hqn⟩ := findB_mem by_.2.2.2.2.2.2.2.2.2.2.2.1
  have hqn := toList_inj hqn
  obtain ⟨iy, hiy, hiq⟩ := List.getElem_of_mem hq
  have hdq : bs.getD iy zeroBy = q := by rw [getD_of hiy, hiq]
  have hfb := findB_self hbs hiy
  rw [hdq, hqn] at hfb
  
  obtain ⟨t, ht, htY, htm⟩ := exists_floor y.a (startsZ l x.a) ⟨x.a, (mem_startsZ _ _ _).2 (.inl rfl), hfrom⟩
  have htr := starts_rng c ht
  have hgap : ∀ b ∈ l, t < b.b → y.a < b.b := by
    intro b hb h1
    rcases Int.lt_or_le y.a b.b with h2 | h2
    · exact h2
    · have := htm b.b ((mem_startsZ _ _ _).2 (.inr ⟨b, hb, by omega, rfl⟩)) h2
      omega
  
  have hend : ∃ e, e ∈ endsC l q (IntKind.i64.wrap (t + h)) ∧ e ≤ y.b ∧ t + h ≤ e ∧ ∀ b ∈ l, b.bay.toList = y.bay.toList → b.b = y.b → b.b = e := by
    by_cases hA : ∃ b ∈ l, b.bay.toList = y.bay.toList ∧ b.b = y.b
    · obtain ⟨b, hb, e1, e2⟩ := hA
      refine ⟨y.b, ?_, Int.le_refl _, by omega, fun _ _ _ h => h⟩
      rw [wrap_i64 (by omega) (by omega), mem_endsC]
      by_cases he : y.b = t + h
      · exact .inl he
      · exact .inr ⟨b, hb, by rw [e1, hqn], by omega, e2⟩
    · refine ⟨t + h, ?_, by omega, Int.le_refl _, fun b hb e1 e2 => absurd ⟨b, hb, e1, e2⟩ hA⟩
      rw [wrap_i64 (by omega) (by omega), mem_endsC]
      exact .inl rfl
  obtain ⟨e, he, heY, hte, hsame⟩ := hend
  have hasked := c.asked hq htr.2.1 (t := t) (e := e) (by omega) (by omega)
  have hFits : Fits l q (askd x q.nm t e) y.x y.y := by
    have hd : (findB bs y.bay).1 = q := by rw [hfb]
    rw [hd] at by_
    refine ⟨by omega, by omega, ?_, ?_, ?_⟩
    · show y.x + x.len ≤ q.len; omega
    · show y.y + x.wid ≤ q.wid; omega
    · intro b hb e1 e2 e3
      have e1 : b.bay.toList = q.nm.toList := e1
      have e2 : b.a < e := e2
      have e3 : t < b.b := e3
      have k := hFree b hb (by rw [e1, hqn]) (by omega) (hgap b hb e3)
      refine ⟨hsame b hb (by rw [e1, hqn]) k.1, ?_⟩
      have k2 := k.2
      rw [hlen, hwid] at k2
      exact k2
  have hsome : (atD bs l (askd x q.nm t e)).isSome = true := at_some hasked hFits
  have htry : (tryE bs l x h t q).isSome = true := by
    unfold tryE
    rw [List.findSome?_isSome_iff]
    exact ⟨e, he, hsome⟩
  have hg : (bs.findSome? (tryE bs l x h t)).isSome = true := by
    rw [List.findSome?_isSome_iff]
    exact ⟨q, hq, htry⟩
  have hfit : (fitR bs l x h).isSome = true := by
    unfold fitR
    rw [List.findSome?_isSome_iff]
    exact ⟨t, ht, hg⟩
  obtain ⟨z, hz⟩ := Option.isSome_iff_exists.1 hfit
  rw [fitP_eq c]
  refine ⟨z, hz, ?_⟩
  unfold fitR at hz
  obtain ⟨tz, htz, hgz, hminT⟩ := fs_asc ((starts_lt l x.a).imp fun h => Int.le_of_lt h) hz
  have htz2 := hminT t ht hg
  have hzr := starts_rng c htz
  obtain ⟨iz, hiz, hfz, hno⟩ := fs_first zeroBy hgz
  have hmz : bs.getD iz zeroBy ∈ bs := by rw [getD_of hiz]; exact List.getElem_mem hiz
  obtain ⟨ez, X, Y, hez, hzz, hFz, hez1, hez2, hminE⟩ := tryE_is c hmz hzr.2.1 hzr.2.2 hfz
  have hza : z.a = tz := by rw [hzz]; rfl
  have hzb : z.b = ez := by rw [hzz]; rfl
  have hzy : z.bay = (bs.getD iz zeroBy).nm := by rw [hzz]; rfl
  refine ⟨by omega, fun heq => ?_⟩
  have htt : tz = t := by omega
  subst htt
  have hyb : (bs.getD iy zeroBy).nm = y.bay := by rw [hdq]; exact hqn
  have hle : iz ≤ iy := by
    rcases Nat.lt_or_ge iy iz with h1 | h1
    · have := hno iy h1
      rw [hdq] at this
      rw [this] at htry; cases htry
    · exact h1
  refine ⟨fun i hi hj e1 => ?_, fun e1 => ?_⟩
  · have h1 : i < iz := by
      rcases Nat.lt_or_ge i iz with h1 | h1
      · exact h1
      · exact absurd hzy.symm (hj iz h1)
    have h2 := names_inj hbs hi hiy (by rw [e1, hyb])
    have := hno i h1
    rw [h2, hdq] at this
    rw [this] at htry; cases htry
  · have h2 := names_inj hbs hiz hiy (by rw [← hzy, e1, hyb])
    rw [h2, hdq] at hez hminE
    have := hminE e he hsome
    omega
end
end Go.Proofs
namespace Go.Ab
open Go.RowKit
def appendKO (c : Nat) (e : TypeId) (sz bytes : Nat) (ys : List (List AV)) (rx : List Nat) : Option Blk → Eff
  | some (.row es sz' e') => ⟨sz' = sz ∧ e' = e ∧ c ∉ rx ∧ ys ≠ [] ∧ (∀ y ∈ ys, y.length = sz) ∧ (es.length + ys.length) * bytes ≤ 140737488355328, .ext c (es ++ ys), [(c, some (.rowS es ys sz e))], c :: rx⟩
  | _ => .fail
def appendKX (h : Nat → Option Blk) (e : TypeId) (sz bytes : Nat) (s : AV) : Option (List (List AV) × List Nat) → Eff
  | some (ys, rx) => match s with
    | .own b => appendKO b e sz bytes ys rx (h b)
    | _ => .fail
  | none => .fail
@[go_sem] theorem appendK_x (h : Nat → Option Blk) (e : TypeId) (sz bytes : Nat) (s x : AV) : effAppendK h e sz bytes s x = appendKX h e sz bytes s (elemsOf h sz x) := by
  unfold effAppendK appendKX
  cases elemsOf h sz x with
  | none => rfl
  | some p =>
    obtain ⟨ys, rx⟩ := p
    cases s <;> rfl
@[go_sem] theorem appendKX_own (h : Nat → Option Blk) (e : TypeId) (sz bytes c : Nat) (ys : List (List AV)) (rx : List Nat) : appendKX h e sz bytes (.own c) (some (ys, rx)) = appendKO c e sz bytes ys rx (h c) := rfl
@[go_sem] theorem appendKO_row (c : Nat) (e : TypeId) (sz bytes : Nat) (ys es : List (List AV)) (rx : List Nat) (sz' : Nat) (e' : TypeId) : appendKO c e sz bytes ys rx (some (.row es sz' e')) = ⟨sz' = sz ∧ e' = e ∧ c ∉ rx ∧ ys ≠ [] ∧ (∀ y ∈ ys, y.length = sz) ∧ (es.length + ys.length) * bytes ≤ 140737488355328, .ext c (es ++ ys), [(c, some (.rowS es ys sz e))], c :: rx⟩ := rfl
theorem sl_kg {P : Program} {d : Option Nat} {deps : List Nat} {r : List AOper} {nm : Nat} {t : Nat → AV} {h h' : Nat → Option Blk} {p : Prop} {v : AV} {rd l : List Nat} {KL : AState → List Ent → Prop} {es : List Ent} {q : Nat} {want : Bool} {e : TypeId} {sz bytes : Nat} {s x : AOpd} {u : Upd}
    (hv : t q = .v (.bool want)) (he : effAppendK h e sz bytes (evo ⟨t, h⟩ s) (evo ⟨t, h⟩ x) = ⟨p, v, u, rd⟩) (hu : updL h u = h') (hl : u.map (·.1) = l) (hp : p)
    (h1 : aopsL P r (nm + 1) ⟨putT t d v, h'⟩ (es ++ [⟨q :: (AOp.append e sz bytes s x).temps, rd, d, l⟩]) KL) : aopsL P (⟨d, .append e sz bytes s x, some (q, want), deps⟩ :: r) nm ⟨t, h⟩ es KL := by
  subst hu; subst hl
  refine aopsL_callg (P := P) rfl ?_
  show gval (t q) _ _ _
  rw [hv]
  refine gval_intro (fun _ => ⟨⟨.nils, [], []⟩, ?_, ?_⟩) (fun e => by cases want <;> cases e)
  · simp only [AOp.eff, pickB, he]
    exact hp
  · simp only [AOp.eff, pickB, he]
    exact h1
end Go.Ab
namespace Go.Proofs
open Go Go.Ab
set_option maxHeartbeats 8000000
set_option maxRecDepth 100000
attribute [local irreducible] Awp aops aopsL Go.Ab.Pure PureOwn
def Hid (p : Prop) : Prop := p
def askF (y : Sty) (fr : Int) : Sty := ⟨y.item, ⟨#[]⟩, 0, 0, y.len, y.wid, fr, 0⟩
theorem dock_sub1 {bs : List By} {l : List Sty} {y : Sty} (h : dockE bs (l ++ [y]) = 0) : dockE bs l = 0 := by
  rw [dockE_iff, checkE_iff] at h ⊢
  obtain ⟨⟨h1, h2, h3, h4⟩, h5, h6⟩ := h
  rw [List.length_append] at h2
  rw [List.pairwise_append] at h4 h5
  exact ⟨⟨h1, by omega, fun x hx => h3 x (by simp [hx]), h4.1⟩, h5.1, fun b hb x hx => h6 b (by simp [hb]) x (by simp [hx])⟩
theorem call_of {bs : List By} {l : List Sty} {y : Sty} {fr hr : Int} (h : dockE bs (l ++ [y]) = 0) (h1 : 1 ≤ hr) (h2 : hr ≤ 1048576) (h3 : 0 ≤ fr) (h4 : fr ≤ 1048576) : Call bs l (askF y fr) hr := by
  have h0 := dock_sub1 h
  obtain ⟨g1, g2, g3⟩ := (dockE_iff bs _).1 h
  obtain ⟨b1, b2, b3, b4⟩ := (checkE_iff bs _).1 g1
  have hy := good_box b1 (b3 y (by simp))
  have hy2 := (good_iff b1).1 (b3 y (by simp))
  rw [List.length_append, List.length_singleton] at b2
  refine ⟨h0, hy2.1, ?_, ?_, by omega⟩
  · rw [List.any_eq_false]
    intro b hb e
    rw [List.pairwise_append] at g2
    unfold hullB askF at e
    rw [beq_iff_eq] at e
    exact g2.2.2 b hb y (by simp) e
  · unfold fitB askF
    simp only [Bool.or_eq_false_iff, Bool.not_eq_false', Bool.and_eq_true, decide_eq_true_eq]
    omega
theorem last_box {bs : List By} {l : List Sty} {y : Sty} (h : dockE bs (l ++ [y]) = 0) : 0 ≤ y.a ∧ y.a < y.b ∧ y.b ≤ 1048576 := by
  obtain ⟨g1, _, _⟩ := (dockE_iff bs _).1 h
  obtain ⟨b1, _, b3, _⟩ := (checkE_iff bs _).1 g1
  have := good_box b1 (b3 y (by simp))
  omega
def fi1 (bs : List By) (l : List Sty) (y z : Sty) (i : Nat) : AState := mkS [(3, .bp 0 0), (4, .bp 1 0), (10, .bp 2 0), (12, .v (.int .i64 i))] [(0, .box [.sl (bys bs), .sl (stys l)]), (1, .box y.cells), (2, .box z.cells)]
theorem strs_neq {a b : ByteArray} (h : a ≠ b) : (a.toList == b.toList) = false := by
  rw [beq_eq_false_iff_ne]; exact fun e => h (toList_inj e)
theorem strs_eqq (a : ByteArray) : (a.toList == a.toList) = true := beq_self_eq_true _
theorem first_ok (p : Pl) (y : Sty) (fr hr : Int) : Pure Tryz.prog 7 [p.av, y.av, .agg [.v (.int .i64 fr), .v (.int .i64 hr)]] (.v (.bool true)) := by
  have c0 := few_ok p.bays p.stays 9 (by decide)
  have a0 := alive_ok
  cases h1 : fewB p.bays p.stays 9
  · rw [h1] at c0
    refine fn_pure Tryz.F7 (Nat.le_of_ble_eq_true rfl) ?_; unfold Tryz.ac7 AR AM AO
    repeat' (first
 | (apply Awp.sreg; (case hn => (simp only [List.length_cons, List.length_nil, Nat.reduceAdd] <;> rfl)))
 | (apply Awp.sdraw; (case hn => (simp only [List.length_cons, List.length_nil, Nat.reduceAdd] <;> rfl)))
 | (refine st_nil ?_)
 | (apply st_a; (case hc => rfl); (case he => (simp only [go_sem, *] <;> rfl)); (case hu => (simp only [updL_nil, updL_cons] <;> rfl)); (case hp => first | trivial))
 | (apply st_m; (case hc => rfl); (case hg => (simp only [go_sem, *] <;> rfl)); (case he => (intro hQz; (try simp only [wantB_t, wantB_f, Bool.and_eq_true, Bool.not_eq_true', Bool.not_true, Bool.not_false, and_true, true_and] at hQz); simp only [go_sem, *] <;> rfl)); (case hp => (intro hQz; (try simp only [wantB_t, wantB_f, Bool.and_eq_true, Bool.not_eq_true', Bool.or_eq_false_iff, decide_eq_true_eq, decide_eq_false_iff_not, beq_iff_eq, beq_eq_false_iff_ne, bne_iff_ne, bne_eq_false_iff_eq, Int.not_lt, Int.not_le, Int.ofNat_lt, Int.ofNat_le] at hQz); first | trivial)))
 | (apply st_c; (case hc => (simp only [go_sem, *] <;> rfl)); (case hl => (simp only [go_sem, *] <;> rfl)); (case hn => (simp only [go_sem, *] <;> rfl)); (case hp => first | exact c0 | (have hXz := c0; simp only [go_sem, *] at hXz; exact hXz)))
 | (apply st_c; (case hc => (simp only [go_sem, *] <;> rfl)); (case hl => (simp only [go_sem, *] <;> rfl)); (case hn => (simp only [go_sem, *] <;> rfl)); (case hp => first | exact a0 | (have hXz := a0; simp only [go_sem, *] at hXz; exact hXz)))
 | (refine Awp.ret ?_; try simp only [go_sem, *])
 | (apply Awp.cond; (case hc => (simp only [go_sem, *] <;> rfl)); all_goals (intro hg; (try simp only [Bool.not_true, Bool.not_false, reduceCtorEq] at hg)))
 | refine Awp.seq ?_
 | (apply sl_a; (case hc => rfl); (case he => (simp only [go_sem, *] <;> rfl)); (case hu => (simp only [updL_nil, updL_cons] <;> rfl)); (case hl => (simp only [List.map_cons, List.map_nil] <;> rfl)); (case hp => first | trivial))
 | (refine sl_nil (And.intro (by first | exact drawOk_of (by decide +kernel) | (simp only [List.map_cons, List.map_nil]; exact drawOk_of (by decide +kernel)) | decide) ?_)))
    all_goals repeat' (first | exact Lower.bool (by first | rfl | (simp only [true_and, Bool.true_and, Bool.false_and, Bool.and_true, Bool.and_false, Bool.true_or, Bool.false_or, reduceIte, Bool.false_eq_true, *]; done) | (simp only [true_and, reduceIte, Bool.false_eq_true, *] <;> rfl) | (simp [true_and]; done) | (simp_all [true_and]; done) | omega))
  rw [h1] at c0
  obtain ⟨hb, hl, hs⟩ := few_get h1
  clear h1 hs
  by_cases hok : ¬ (100 : Int) < y.item.size ∧ ¬ (100 : Int) < y.bay.size ∧ ¬ hr < 1 ∧ ¬ 1048576 < hr ∧ ¬ fr < 0 ∧ ¬ 1048576 < fr
  case neg =>
    cases g1 : decide ((100 : Int) < y.item.size)
    case true =>
      clear hok
      refine fn_pure Tryz.F7 (Nat.le_of_ble_eq_true rfl) ?_; unfold Tryz.ac7 AR AM AO
      repeat' (first
 | (apply Awp.sreg; (case hn => (simp only [List.length_cons, List.length_nil, Nat.reduceAdd] <;> rfl)))
 | (apply Awp.sdraw; (case hn => (simp only [List.length_cons, List.length_nil, Nat.reduceAdd] <;> rfl)))
 | (refine st_nil ?_)
 | (apply st_a; (case hc => rfl); (case he => (simp only [go_sem, *] <;> rfl)); (case hu => (simp only [updL_nil, updL_cons] <;> rfl)); (case hp => first | trivial))
 | (apply st_m; (case hc => rfl); (case hg => (simp only [go_sem, *] <;> rfl)); (case he => (intro hQz; (try simp only [wantB_t, wantB_f, Bool.and_eq_true, Bool.not_eq_true', Bool.not_true, Bool.not_false, and_true, true_and] at hQz); simp only [go_sem, *] <;> rfl)); (case hp => (intro hQz; (try simp only [wantB_t, wantB_f, Bool.and_eq_true, Bool.not_eq_true', Bool.or_eq_false_iff, decide_eq_true_eq, decide_eq_false_iff_not, beq_iff_eq, beq_eq_false_iff_ne, bne_iff_ne, bne_eq_false_iff_eq, Int.not_lt, Int.not_le, Int.ofNat_lt, Int.ofNat_le] at hQz); first | trivial)))
 | (apply st_c; (case hc => (simp only [go_sem, *] <;> rfl)); (case hl => (simp only [go_sem, *] <;> rfl)); (case hn => (simp only [go_sem, *] <;> rfl)); (case hp => first | exact c0 | (have hXz := c0; simp only [go_sem, *] at hXz; exact hXz)))
 | (apply st_c; (case hc => (simp only [go_sem, *] <;> rfl)); (case hl => (simp only [go_sem, *] <;> rfl)); (case hn => (simp only [go_sem, *] <;> rfl)); (case hp => first | exact a0 | (have hXz := a0; simp only [go_sem, *] at hXz; exact hXz)))
 | (refine Awp.ret ?_; try simp only [go_sem, *])
 | (apply Awp.cond; (case hc => (simp only [go_sem, *] <;> rfl)); all_goals (intro hg; (try simp only [Bool.not_true, Bool.not_false, reduceCtorEq] at hg)))
 | refine Awp.seq ?_
 | (apply sl_a; (case hc => rfl); (case he => (simp only [go_sem, *] <;> rfl)); (case hu => (simp only [updL_nil, updL_cons] <;> rfl)); (case hl => (simp only [List.map_cons, List.map_nil] <;> rfl)); (case hp => first | trivial))
 | (refine sl_nil (And.intro (by first | exact drawOk_of (by decide +kernel) | (simp only [List.map_cons, List.map_nil]; exact drawOk_of (by decide +kernel)) | decide) ?_)))
      all_goals repeat' (first | exact Lower.bool (by first | rfl | (simp only [true_and, Bool.true_and, Bool.false_and, Bool.and_true, Bool.and_false, Bool.true_or, Bool.false_or, reduceIte, Bool.false_eq_true, *]; done) | (simp only [true_and, reduceIte, Bool.false_eq_true, *] <;> rfl) | (simp [true_and]; done) | (simp_all [true_and]; done) | omega))
    cases g2 : decide ((100 : Int) < y.bay.size)
    case true =>
      clear hok
      refine fn_pure Tryz.F7 (Nat.le_of_ble_eq_true rfl) ?_; unfold Tryz.ac7 AR AM AO
      repeat' (first
 | (apply Awp.sreg; (case hn => (simp only [List.length_cons, List.length_nil, Nat.reduceAdd] <;> rfl)))
 | (apply Awp.sdraw; (case hn => (simp only [List.length_cons, List.length_nil, Nat.reduceAdd] <;> rfl)))
 | (refine st_nil ?_)
 | (apply st_a; (case hc => rfl); (case he => (simp only [go_sem, *] <;> rfl)); (case hu => (simp only [updL_nil, updL_cons] <;> rfl)); (case hp => first | trivial))
 | (apply st_m; (case hc => rfl); (case hg => (simp only [go_sem, *] <;> rfl)); (case he => (intro hQz; (try simp only [wantB_t, wantB_f, Bool.and_eq_true, Bool.not_eq_true', Bool.not_true, Bool.not_false, and_true, true_and] at hQz); simp only [go_sem, *] <;> rfl)); (case hp => (intro hQz; (try simp only [wantB_t, wantB_f, Bool.and_eq_true, Bool.not_eq_true', Bool.or_eq_false_iff, decide_eq_true_eq, decide_eq_false_iff_not, beq_iff_eq, beq_eq_false_iff_ne, bne_iff_ne, bne_eq_false_iff_eq, Int.not_lt, Int.not_le, Int.ofNat_lt, Int.ofNat_le] at hQz); first | trivial)))
 | (apply st_c; (case hc => (simp only [go_sem, *] <;> rfl)); (case hl => (simp only [go_sem, *] <;> rfl)); (case hn => (simp only [go_sem, *] <;> rfl)); (case hp => first | exact c0 | (have hXz := c0; simp only [go_sem, *] at hXz; exact hXz)))
 | (apply st_c; (case hc => (simp only [go_sem, *] <;> rfl)); (case hl => (simp only [go_sem, *] <;> rfl)); (case hn => (simp only [go_sem, *] <;> rfl)); (case hp => first | exact a0 | (have hXz := a0; simp only [go_sem, *] at hXz; exact hXz)))
 | (refine Awp.ret ?_; try simp only [go_sem, *])
 | (apply Awp.cond; (case hc => (simp only [go_sem, *] <;> rfl)); all_goals (intro hg; (try simp only [Bool.not_true, Bool.not_false, reduceCtorEq] at hg)))
 | refine Awp.seq ?_
 | (apply sl_a; (case hc => rfl); (case he => (simp only [go_sem, *] <;> rfl)); (case hu => (simp only [updL_nil, updL_cons] <;> rfl)); (case hl => (simp only [List.map_cons, List.map_nil] <;> rfl)); (case hp => first | trivial))
 | (refine sl_nil (And.intro (by first | exact drawOk_of (by decide +kernel) | (simp only [List.map_cons, List.map_nil]; exact drawOk_of (by decide +kernel)) | decide) ?_)))
      all_goals repeat' (first | exact Lower.bool (by first | rfl | (simp only [true_and, Bool.true_and, Bool.false_and, Bool.and_true, Bool.and_false, Bool.true_or, Bool.false_or, reduceIte, Bool.false_eq_true, *]; done) | (simp only [true_and, reduceIte, Bool.false_eq_true, *] <;> rfl) | (simp [true_and]; done) | (simp_all [true_and]; done) | omega))
    cases g3 : decide (hr < 1)
    case true =>
      clear hok
      refine fn_pure Tryz.F7 (Nat.le_of_ble_eq_true rfl) ?_; unfold Tryz.ac7 AR AM AO
      repeat' (first
 | (apply Awp.sreg; (case hn => (simp only [List.length_cons, List.length_nil, Nat.reduceAdd] <;> rfl)))
 | (apply Awp.sdraw; (case hn => (simp only [List.length_cons, List.length_nil, Nat.reduceAdd] <;> rfl)))
 | (refine st_nil ?_)
 | (apply st_a; (case hc => rfl); (case he => (simp only [go_sem, *] <;> rfl)); (case hu => (simp only [updL_nil, updL_cons] <;> rfl)); (case hp => first | trivial))
 | (apply st_m; (case hc => rfl); (case hg => (simp only [go_sem, *] <;> rfl)); (case he => (intro hQz; (try simp only [wantB_t, wantB_f, Bool.and_eq_true, Bool.not_eq_true', Bool.not_true, Bool.not_false, and_true, true_and] at hQz); simp only [go_sem, *] <;> rfl)); (case hp => (intro hQz; (try simp only [wantB_t, wantB_f, Bool.and_eq_true, Bool.not_eq_true', Bool.or_eq_false_iff, decide_eq_true_eq, decide_eq_false_iff_not, beq_iff_eq, beq_eq_false_iff_ne, bne_iff_ne, bne_eq_false_iff_eq, Int.not_lt, Int.not_le, Int.ofNat_lt, Int.ofNat_le] at hQz); first | trivial)))
 | (apply st_c; (case hc => (simp only [go_sem, *] <;> rfl)); (case hl => (simp only [go_sem, *] <;> rfl)); (case hn => (simp only [go_sem, *] <;> rfl)); (case hp => first | exact c0 | (have hXz := c0; simp only [go_sem, *] at hXz; exact hXz)))
 | (apply st_c; (case hc => (simp only [go_sem, *] <;> rfl)); (case hl => (simp only [go_sem, *] <;> rfl)); (case hn => (simp only [go_sem, *] <;> rfl)); (case hp => first | exact a0 | (have hXz := a0; simp only [go_sem, *] at hXz; exact hXz)))
 | (refine Awp.ret ?_; try simp only [go_sem, *])
 | (apply Awp.cond; (case hc => (simp only [go_sem, *] <;> rfl)); all_goals (intro hg; (try simp only [Bool.not_true, Bool.not_false, reduceCtorEq] at hg)))
 | refine Awp.seq ?_
 | (apply sl_a; (case hc => rfl); (case he => (simp only [go_sem, *] <;> rfl)); (case hu => (simp only [updL_nil, updL_cons] <;> rfl)); (case hl => (simp only [List.map_cons, List.map_nil] <;> rfl)); (case hp => first | trivial))
 | (refine sl_nil (And.intro (by first | exact drawOk_of (by decide +kernel) | (simp only [List.map_cons, List.map_nil]; exact drawOk_of (by decide +kernel)) | decide) ?_)))
      all_goals repeat' (first | exact Lower.bool (by first | rfl | (simp only [true_and, Bool.true_and, Bool.false_and, Bool.and_true, Bool.and_false, Bool.true_or, Bool.false_or, reduceIte, Bool.false_eq_true, *]; done) | (simp only [true_and, reduceIte, Bool.false_eq_true, *] <;> rfl) | (simp [true_and]; done) | (simp_all [true_and]; done) | omega))
    cases g4 : decide (1048576 < hr)
    case true =>
      clear hok
      refine fn_pure Tryz.F7 (Nat.le_of_ble_eq_true rfl) ?_; unfold Tryz.ac7 AR AM AO
      repeat' (first
 | (apply Awp.sreg; (case hn => (simp only [List.length_cons, List.length_nil, Nat.reduceAdd] <;> rfl)))
 | (apply Awp.sdraw; (case hn => (simp only [List.length_cons, List.length_nil, Nat.reduceAdd] <;> rfl)))
 | (refine st_nil ?_)
 | (apply st_a; (case hc => rfl); (case he => (simp only [go_sem, *] <;> rfl)); (case hu => (simp only [updL_nil, updL_cons] <;> rfl)); (case hp => first | trivial))
 | (apply st_m; (case hc => rfl); (case hg => (simp only [go_sem, *] <;> rfl)); (case he => (intro hQz; (try simp only [wantB_t, wantB_f, Bool.and_eq_true, Bool.not_eq_true', Bool.not_true, Bool.not_false, and_true, true_and] at hQz); simp only [go_sem, *] <;> rfl)); (case hp => (intro hQz; (try simp only [wantB_t, wantB_f, Bool.and_eq_true, Bool.not_eq_true', Bool.or_eq_false_iff, decide_eq_true_eq, decide_eq_false_iff_not, beq_iff_eq, beq_eq_false_iff_ne, bne_iff_ne, bne_eq_false_iff_eq, Int.not_lt, Int.not_le, Int.ofNat_lt, Int.ofNat_le] at hQz); first | trivial)))
 | (apply st_c; (case hc => (simp only [go_sem, *] <;> rfl)); (case hl => (simp only [go_sem, *] <;> rfl)); (case hn => (simp only [go_sem, *] <;> rfl)); (case hp => first | exact c0 | (have hXz := c0; simp only [go_sem, *] at hXz; exact hXz)))
 | (apply st_c; (case hc => (simp only [go_sem, *] <;> rfl)); (case hl => (simp only [go_sem, *] <;> rfl)); (case hn => (simp only [go_sem, *] <;> rfl)); (case hp => first | exact a0 | (have hXz := a0; simp only [go_sem, *] at hXz; exact hXz)))
 | (refine Awp.ret ?_; try simp only [go_sem, *])
 | (apply Awp.cond; (case hc => (simp only [go_sem, *] <;> rfl)); all_goals (intro hg; (try simp only [Bool.not_true, Bool.not_false, reduceCtorEq] at hg)))
 | refine Awp.seq ?_
 | (apply sl_a; (case hc => rfl); (case he => (simp only [go_sem, *] <;> rfl)); (case hu => (simp only [updL_nil, updL_cons] <;> rfl)); (case hl => (simp only [List.map_cons, List.map_nil] <;> rfl)); (case hp => first | trivial))
 | (refine sl_nil (And.intro (by first | exact drawOk_of (by decide +kernel) | (simp only [List.map_cons, List.map_nil]; exact drawOk_of (by decide +kernel)) | decide) ?_)))
      all_goals repeat' (first | exact Lower.bool (by first | rfl | (simp only [true_and, Bool.true_and, Bool.false_and, Bool.and_true, Bool.and_false, Bool.true_or, Bool.false_or, reduceIte, Bool.false_eq_true, *]; done) | (simp only [true_and, reduceIte, Bool.false_eq_true, *] <;> rfl) | (simp [true_and]; done) | (simp_all [true_and]; done) | omega))
    cases g5 : decide (fr < 0)
    case true =>
      clear hok
      refine fn_pure Tryz.F7 (Nat.le_of_ble_eq_true rfl) ?_; unfold Tryz.ac7 AR AM AO
      repeat' (first
 | (apply Awp.sreg; (case hn => (simp only [List.length_cons, List.length_nil, Nat.reduceAdd] <;> rfl)))
 | (apply Awp.sdraw; (case hn => (simp only [List.length_cons, List.length_nil, Nat.reduceAdd] <;> rfl)))
 | (refine st_nil ?_)
 | (apply st_a; (case hc => rfl); (case he => (simp only [go_sem, *] <;> rfl)); (case hu => (simp only [updL_nil, updL_cons] <;> rfl)); (case hp => first | trivial))
 | (apply st_m; (case hc => rfl); (case hg => (simp only [go_sem, *] <;> rfl)); (case he => (intro hQz; (try simp only [wantB_t, wantB_f, Bool.and_eq_true, Bool.not_eq_true', Bool.not_true, Bool.not_false, and_true, true_and] at hQz); simp only [go_sem, *] <;> rfl)); (case hp => (intro hQz; (try simp only [wantB_t, wantB_f, Bool.and_eq_true, Bool.not_eq_true', Bool.or_eq_false_iff, decide_eq_true_eq, decide_eq_false_iff_not, beq_iff_eq, beq_eq_false_iff_ne, bne_iff_ne, bne_eq_false_iff_eq, Int.not_lt, Int.not_le, Int.ofNat_lt, Int.ofNat_le] at hQz); first | trivial)))
 | (apply st_c; (case hc => (simp only [go_sem, *] <;> rfl)); (case hl => (simp only [go_sem, *] <;> rfl)); (case hn => (simp only [go_sem, *] <;> rfl)); (case hp => first | exact c0 | (have hXz := c0; simp only [go_sem, *] at hXz; exact hXz)))
 | (apply st_c; (case hc => (simp only [go_sem, *] <;> rfl)); (case hl => (simp only [go_sem, *] <;> rfl)); (case hn => (simp only [go_sem, *] <;> rfl)); (case hp => first | exact a0 | (have hXz := a0; simp only [go_sem, *] at hXz; exact hXz)))
 | (refine Awp.ret ?_; try simp only [go_sem, *])
 | (apply Awp.cond; (case hc => (simp only [go_sem, *] <;> rfl)); all_goals (intro hg; (try simp only [Bool.not_true, Bool.not_false, reduceCtorEq] at hg)))
 | refine Awp.seq ?_
 | (apply sl_a; (case hc => rfl); (case he => (simp only [go_sem, *] <;> rfl)); (case hu => (simp only [updL_nil, updL_cons] <;> rfl)); (case hl => (simp only [List.map_cons, List.map_nil] <;> rfl)); (case hp => first | trivial))
 | (refine sl_nil (And.intro (by first | exact drawOk_of (by decide +kernel) | (simp only [List.map_cons, List.map_nil]; exact drawOk_of (by decide +kernel)) | decide) ?_)))
      all_goals repeat' (first | exact Lower.bool (by first | rfl | (simp only [true_and, Bool.true_and, Bool.false_and, Bool.and_true, Bool.and_false, Bool.true_or, Bool.false_or, reduceIte, Bool.false_eq_true, *]; done) | (simp only [true_and, reduceIte, Bool.false_eq_true, *] <;> rfl) | (simp [true_and]; done) | (simp_all [true_and]; done) | omega))
    cases g6 : decide (1048576 < fr)
    case true =>
      clear hok
      refine fn_pure Tryz.F7 (Nat.le_of_ble_eq_true rfl) ?_; unfold Tryz.ac7 AR AM AO
      repeat' (first
 | (apply Awp.sreg; (case hn => (simp only [List.length_cons, List.length_nil, Nat.reduceAdd] <;> rfl)))
 | (apply Awp.sdraw; (case hn => (simp only [List.length_cons, List.length_nil, Nat.reduceAdd] <;> rfl)))
 | (refine st_nil ?_)
 | (apply st_a; (case hc => rfl); (case he => (simp only [go_sem, *] <;> rfl)); (case hu => (simp only [updL_nil, updL_cons] <;> rfl)); (case hp => first | trivial))
 | (apply st_m; (case hc => rfl); (case hg => (simp only [go_sem, *] <;> rfl)); (case he => (intro hQz; (try simp only [wantB_t, wantB_f, Bool.and_eq_true, Bool.not_eq_true', Bool.not_true, Bool.not_false, and_true, true_and] at hQz); simp only [go_sem, *] <;> rfl)); (case hp => (intro hQz; (try simp only [wantB_t, wantB_f, Bool.and_eq_true, Bool.not_eq_true', Bool.or_eq_false_iff, decide_eq_true_eq, decide_eq_false_iff_not, beq_iff_eq, beq_eq_false_iff_ne, bne_iff_ne, bne_eq_false_iff_eq, Int.not_lt, Int.not_le, Int.ofNat_lt, Int.ofNat_le] at hQz); first | trivial)))
 | (apply st_c; (case hc => (simp only [go_sem, *] <;> rfl)); (case hl => (simp only [go_sem, *] <;> rfl)); (case hn => (simp only [go_sem, *] <;> rfl)); (case hp => first | exact c0 | (have hXz := c0; simp only [go_sem, *] at hXz; exact hXz)))
 | (apply st_c; (case hc => (simp only [go_sem, *] <;> rfl)); (case hl => (simp only [go_sem, *] <;> rfl)); (case hn => (simp only [go_sem, *] <;> rfl)); (case hp => first | exact a0 | (have hXz := a0; simp only [go_sem, *] at hXz; exact hXz)))
 | (refine Awp.ret ?_; try simp only [go_sem, *])
 | (apply Awp.cond; (case hc => (simp only [go_sem, *] <;> rfl)); all_goals (intro hg; (try simp only [Bool.not_true, Bool.not_false, reduceCtorEq] at hg)))
 | refine Awp.seq ?_
 | (apply sl_a; (case hc => rfl); (case he => (simp only [go_sem, *] <;> rfl)); (case hu => (simp only [updL_nil, updL_cons] <;> rfl)); (case hl => (simp only [List.map_cons, List.map_nil] <;> rfl)); (case hp => first | trivial))
 | (refine sl_nil (And.intro (by first | exact drawOk_of (by decide +kernel) | (simp only [List.map_cons, List.map_nil]; exact drawOk_of (by decide +kernel)) | decide) ?_)))
      all_goals repeat' (first | exact Lower.bool (by first | rfl | (simp only [true_and, Bool.true_and, Bool.false_and, Bool.and_true, Bool.and_false, Bool.true_or, Bool.false_or, reduceIte, Bool.false_eq_true, *]; done) | (simp only [true_and, reduceIte, Bool.false_eq_true, *] <;> rfl) | (simp [true_and]; done) | (simp_all [true_and]; done) | omega))
    exact absurd ⟨of_decide_eq_false g1, of_decide_eq_false g2, of_decide_eq_false g3, of_decide_eq_false g4, of_decide_eq_false g5, of_decide_eq_false g6⟩ hok
  obtain ⟨k1, k2, k3, k4, k5, k6⟩ := hok
  have g1 : decide ((100 : Int) < y.item.size) = false := decide_eq_false k1
  have g2 : decide ((100 : Int) < y.bay.size) = false := decide_eq_false k2
  have g3 : decide (hr < 1) = false := decide_eq_false k3
  have g4 : decide (1048576 < hr) = false := decide_eq_false k4
  have g5 : decide (fr < 0) = false := decide_eq_false k5
  have g6 : decide (1048576 < fr) = false := decide_eq_false k6
  obtain ⟨bs, l⟩ := p
  simp only at c0 hb hl
  have hlb : l.length < 1000000 := by omega
  have hone : ∀ y ∈ stys l, y.length = 8 := stys_one l
  have h80 : l.length * 80 ≤ 140737488355328 := by omega
  have c1 := fit_ok bs l (askF y fr) hr (by omega) (by omega)
  have c2 : Pure Tryz.prog 12 [.sl (bys bs), .sl (stys l ++ [y.cells])] (.v (.int .i64 (dockE bs (l ++ [y])))) := by
    have := dcheck_ok bs (l ++ [y]) (by omega) (by rw [List.length_append, List.length_singleton]; omega)
    rw [← stys_snoc] at this
    exact this
  have hsnd := first_sound (bs := bs) (l := l) (x := askF y fr) (h := hr)
  have hlst : dockE bs (l ++ [y]) = 0 → fr ≤ y.a → y.a + hr ≤ y.b → ∃ z, fitH bs l (askF y fr) hr (fitP bs l (askF y fr) hr) = (z, 0) ∧ z.a ≤ y.a ∧ (z.a = y.a → (∀ i, i < bs.length → (∀ j, j ≤ i → (bs.getD j zeroBy).nm ≠ z.bay) → (bs.getD i zeroBy).nm ≠ y.bay) ∧ (z.bay = y.bay → z.b ≤ y.b)) := by
    intro h1 h2 h3
    have hc := call_of (fr := fr) (hr := hr) h1 (by omega) (by omega) (by omega) (by omega)
    obtain ⟨z, e1, e2, e3⟩ := first_least hc h1 rfl rfl h2 h3
    exact ⟨z, by rw [e1]; exact fitH_some hc, e2, e3⟩
  have hbox := last_box (bs := bs) (l := l) (y := y)
  have hchk : ∀ z : Sty, Pure Tryz.prog 12 [.sl (bys bs), .sl (stys l ++ [z.cells])] (.v (.int .i64 (dockE bs (l ++ [z])))) := fun z => by
    have := dcheck_ok bs (l ++ [z]) (by omega) (by rw [List.length_append, List.length_singleton]; omega)
    rw [← stys_snoc] at this
    exact this
  generalize fitH bs l (askF y fr) hr (fitP bs l (askF y fr) hr) = F at *
  obtain ⟨z, e⟩ := F
  simp only at c1 hsnd hlst
  unfold askF at c1
  generalize hQ : dockE bs (l ++ [y]) = q at *
  have eq0 : (q == q) = true := beq_self_eq_true q
  by_cases he : e = 0
  · subst he
    obtain ⟨s1, s2, s3, s4, s5, s6, s7⟩ := hsnd rfl
    have c3 := hchk z
    rw [s1] at c3
    have hze : z = ⟨y.item, z.bay, z.x, z.y, y.len, y.wid, z.a, z.b⟩ := by
      obtain ⟨za, zb, zc, zd, ze, zf, zg, zh⟩ := z
      simp only [askF] at s2 s3 s4
      rw [s2, s3, s4]
    have s5 : fr ≤ z.a := s5
    generalize z.bay = zbay at *
    generalize hA : z.a = za at *
    generalize hB : z.b = zb at *
    generalize z.x = zx at *
    generalize z.y = zy at *
    subst hze
    simp only [Sty.cells] at c3 c2
    have w1 : IntKind.i64.wrap (zb - za) = zb - za := wrap_i64 (by omega) (by omega)
    have d1 : decide (za < fr) = false := decide_eq_false (by omega)
    have d2 : decide (zb - za < hr) = false := decide_eq_false (by omega)
    have t1 := strs_eqq y.item
    have t2 : (y.len != y.len) = false := by simp
    have t3 : (y.wid != y.wid) = false := by simp
    clear hsnd hchk hA hB s1 s2 s3 s4
    by_cases hq : q = 0
    case neg =>
      have hq' : (q != 0) = true := by simpa using hq
      clear hlst hbox hQ
      refine fn_pure Tryz.F7 (Nat.le_of_ble_eq_true rfl) ?_; unfold Tryz.ac7 AR AM AO
      repeat' (first
 | (apply sl_kg; (case hv => (simp only [go_sem, *] <;> rfl)); (case he => (simp only [go_sem, *] <;> rfl)); (case hu => (simp only [updL_nil, updL_cons] <;> rfl)); (case hl => (simp only [List.map_cons, List.map_nil] <;> rfl)); (case hp => first | (simp; omega)))
 | (apply Awp.sreg; (case hn => (simp only [List.length_cons, List.length_nil, Nat.reduceAdd] <;> rfl)))
 | (apply Awp.sdraw; (case hn => (simp only [List.length_cons, List.length_nil, Nat.reduceAdd] <;> rfl)))
 | (refine st_nil ?_)
 | (apply st_a; (case hc => rfl); (case he => (simp only [go_sem, *] <;> rfl)); (case hu => (simp only [updL_nil, updL_cons] <;> rfl)); (case hp => first | trivial | ((repeat' (refine And.intro ?_ ?_)) <;> first | trivial | assumption | omega | (simp; done) | (simp; omega) | (simp [*]; done))))
 | (apply st_m; (case hc => rfl); (case hg => (simp only [go_sem, *] <;> rfl)); (case he => (intro hQz; (try simp only [wantB_t, wantB_f, Bool.and_eq_true, Bool.not_eq_true', Bool.not_true, Bool.not_false, and_true, true_and] at hQz); simp only [go_sem, *] <;> rfl)); (case hp => (intro hQz; (try simp only [wantB_t, wantB_f, Bool.and_eq_true, Bool.not_eq_true', Bool.or_eq_false_iff, decide_eq_true_eq, decide_eq_false_iff_not, beq_iff_eq, beq_eq_false_iff_ne, bne_iff_ne, bne_eq_false_iff_eq, Int.not_lt, Int.not_le, Int.ofNat_lt, Int.ofNat_le] at hQz); first | trivial)))
 | (apply st_c; (case hc => (simp only [go_sem, *] <;> rfl)); (case hl => (simp only [go_sem, *] <;> rfl)); (case hn => (simp only [go_sem, *] <;> rfl)); (case hp => first | exact c0 | (have hXz := c0; simp only [go_sem, *] at hXz; exact hXz)))
 | (apply st_c; (case hc => (simp only [go_sem, *] <;> rfl)); (case hl => (simp only [go_sem, *] <;> rfl)); (case hn => (simp only [go_sem, *] <;> rfl)); (case hp => first | exact a0 | (have hXz := a0; simp only [go_sem, *] at hXz; exact hXz)))
 | (apply st_cd; (case hc => (simp only [go_sem, *] <;> rfl)); (case hl => (simp only [go_sem, *] <;> rfl)); (case hn => (simp only [go_sem, *] <;> rfl)); (case hp => first | exact c1 | (have hXz := c1; simp only [go_sem, *] at hXz; exact hXz)); (case hd => first | exact .v _ | exact .any | exact .nils | (repeat' (first | exact Dry.v _ | exact Dry.any | exact Dry.nils | exact Dry.slE | refine Dry.agg ?_ | refine Dry.tup ?_ | (refine List.forall_mem_cons.2 (And.intro ?_ ?_)) | (intro cQ hQ; cases hQ; done)))); (case hm => first | decide | (simp; done)))
 | (refine Awp.ret ?_; try simp only [go_sem, *])
 | (refine Awp.skip ?_; try simp only [go_sem, *])
 | (apply Awp.cond; (case hc => (simp only [go_sem, *] <;> rfl)); all_goals (intro hg; (try simp only [Bool.not_true, Bool.not_false, reduceCtorEq] at hg)))
 | refine Awp.seq ?_
 | (apply sl_a; (case hc => rfl); (case he => (simp only [go_sem, *] <;> rfl)); (case hu => (simp only [updL_nil, updL_cons] <;> rfl)); (case hl => (simp only [List.map_cons, List.map_nil] <;> rfl)); (case hp => first | trivial | (simp; done) | (simp; omega)))
 | (apply sl_gn; (case hv => (simp only [go_sem, *] <;> rfl)); (case hbw => rfl))
 | (apply sl_ga; (case hb => rfl); (case hv => (simp only [go_sem, *] <;> rfl)); (case he => (simp only [go_sem, *] <;> rfl)); (case hu => (simp only [updL_nil, updL_cons] <;> rfl)); (case hl => (simp only [List.map_cons, List.map_nil] <;> rfl)); (case hp => first | trivial | (simp; done)))
 | (apply sl_c; (case hc => (simp only [go_sem, *] <;> rfl)); (case hl => (simp only [go_sem, *] <;> rfl)); (case hn => (simp only [go_sem, *] <;> rfl)); (case hp => first | exact c2 | (have hXz := c2; simp only [go_sem, *] at hXz; exact hXz)); (case hd => first | exact .inl rfl | exact .inr (.v _) | exact .inr .any | exact .inr .nils); (case hm => first | decide | (simp; done)))
 | (apply sl_cg; (case hop => rfl); (case hv => (simp only [go_sem, *] <;> rfl)); (case hc => (simp only [go_sem, *] <;> rfl)); (case hl => (simp only [go_sem, *] <;> rfl)); (case hn => (simp only [go_sem, *] <;> rfl)); (case hp => first | exact c3 | (have hXz := c3; simp only [go_sem, *] at hXz; exact hXz)); (case hd => first | exact .inl rfl | exact .inr (.v _) | exact .inr .any | exact .inr .nils); (case hm => first | decide | (simp; done)))
 | (refine sl_nil (And.intro (by first | exact drawOk_of (by decide +kernel) | (simp only [List.map_cons, List.map_nil]; exact drawOk_of (by decide +kernel)) | decide) ?_)))
      all_goals repeat' (first | exact Lower.bool (by first | rfl | (simp only [true_and, Bool.true_and, Bool.false_and, Bool.and_true, Bool.and_false, Bool.true_or, Bool.false_or, reduceIte, Bool.false_eq_true, *]; done) | (simp only [true_and, reduceIte, Bool.false_eq_true, *] <;> rfl) | (simp [true_and]; done) | (simp_all [true_and]; done) | omega))
    subst hq
    obtain ⟨u1, u2, u3⟩ := hbox rfl
    have w2 : IntKind.i64.wrap (y.b - y.a) = y.b - y.a := wrap_i64 (by omega) (by omega)
    cases d3 : decide (y.a < fr)
    case true =>
      clear hlst hbox hQ
      refine fn_pure Tryz.F7 (Nat.le_of_ble_eq_true rfl) ?_; unfold Tryz.ac7 AR AM AO
      repeat' (first
 | (apply sl_kg; (case hv => (simp only [go_sem, *] <;> rfl)); (case he => (simp only [go_sem, *] <;> rfl)); (case hu => (simp only [updL_nil, updL_cons] <;> rfl)); (case hl => (simp only [List.map_cons, List.map_nil] <;> rfl)); (case hp => first | (simp; omega)))
 | (apply Awp.sreg; (case hn => (simp only [List.length_cons, List.length_nil, Nat.reduceAdd] <;> rfl)))
 | (apply Awp.sdraw; (case hn => (simp only [List.length_cons, List.length_nil, Nat.reduceAdd] <;> rfl)))
 | (refine st_nil ?_)
 | (apply st_a; (case hc => rfl); (case he => (simp only [go_sem, *] <;> rfl)); (case hu => (simp only [updL_nil, updL_cons] <;> rfl)); (case hp => first | trivial | ((repeat' (refine And.intro ?_ ?_)) <;> first | trivial | assumption | omega | (simp; done) | (simp; omega) | (simp [*]; done))))
 | (apply st_m; (case hc => rfl); (case hg => (simp only [go_sem, *] <;> rfl)); (case he => (intro hQz; (try simp only [wantB_t, wantB_f, Bool.and_eq_true, Bool.not_eq_true', Bool.not_true, Bool.not_false, and_true, true_and] at hQz); simp only [go_sem, *] <;> rfl)); (case hp => (intro hQz; (try simp only [wantB_t, wantB_f, Bool.and_eq_true, Bool.not_eq_true', Bool.or_eq_false_iff, decide_eq_true_eq, decide_eq_false_iff_not, beq_iff_eq, beq_eq_false_iff_ne, bne_iff_ne, bne_eq_false_iff_eq, Int.not_lt, Int.not_le, Int.ofNat_lt, Int.ofNat_le] at hQz); first | trivial)))
 | (apply st_c; (case hc => (simp only [go_sem, *] <;> rfl)); (case hl => (simp only [go_sem, *] <;> rfl)); (case hn => (simp only [go_sem, *] <;> rfl)); (case hp => first | exact c0 | (have hXz := c0; simp only [go_sem, *] at hXz; exact hXz)))
 | (apply st_c; (case hc => (simp only [go_sem, *] <;> rfl)); (case hl => (simp only [go_sem, *] <;> rfl)); (case hn => (simp only [go_sem, *] <;> rfl)); (case hp => first | exact a0 | (have hXz := a0; simp only [go_sem, *] at hXz; exact hXz)))
 | (apply st_cd; (case hc => (simp only [go_sem, *] <;> rfl)); (case hl => (simp only [go_sem, *] <;> rfl)); (case hn => (simp only [go_sem, *] <;> rfl)); (case hp => first | exact c1 | (have hXz := c1; simp only [go_sem, *] at hXz; exact hXz)); (case hd => first | exact .v _ | exact .any | exact .nils | (repeat' (first | exact Dry.v _ | exact Dry.any | exact Dry.nils | exact Dry.slE | refine Dry.agg ?_ | refine Dry.tup ?_ | (refine List.forall_mem_cons.2 (And.intro ?_ ?_)) | (intro cQ hQ; cases hQ; done)))); (case hm => first | decide | (simp; done)))
 | (refine Awp.ret ?_; try simp only [go_sem, *])
 | (refine Awp.skip ?_; try simp only [go_sem, *])
 | (apply Awp.cond; (case hc => (simp only [go_sem, *] <;> rfl)); all_goals (intro hg; (try simp only [Bool.not_true, Bool.not_false, reduceCtorEq] at hg)))
 | refine Awp.seq ?_
 | (apply sl_a; (case hc => rfl); (case he => (simp only [go_sem, *] <;> rfl)); (case hu => (simp only [updL_nil, updL_cons] <;> rfl)); (case hl => (simp only [List.map_cons, List.map_nil] <;> rfl)); (case hp => first | trivial | (simp; done) | (simp; omega)))
 | (apply sl_gn; (case hv => (simp only [go_sem, *] <;> rfl)); (case hbw => rfl))
 | (apply sl_ga; (case hb => rfl); (case hv => (simp only [go_sem, *] <;> rfl)); (case he => (simp only [go_sem, *] <;> rfl)); (case hu => (simp only [updL_nil, updL_cons] <;> rfl)); (case hl => (simp only [List.map_cons, List.map_nil] <;> rfl)); (case hp => first | trivial | (simp; done)))
 | (apply sl_c; (case hc => (simp only [go_sem, *] <;> rfl)); (case hl => (simp only [go_sem, *] <;> rfl)); (case hn => (simp only [go_sem, *] <;> rfl)); (case hp => first | exact c2 | (have hXz := c2; simp only [go_sem, *] at hXz; exact hXz)); (case hd => first | exact .inl rfl | exact .inr (.v _) | exact .inr .any | exact .inr .nils); (case hm => first | decide | (simp; done)))
 | (apply sl_cg; (case hop => rfl); (case hv => (simp only [go_sem, *] <;> rfl)); (case hc => (simp only [go_sem, *] <;> rfl)); (case hl => (simp only [go_sem, *] <;> rfl)); (case hn => (simp only [go_sem, *] <;> rfl)); (case hp => first | exact c3 | (have hXz := c3; simp only [go_sem, *] at hXz; exact hXz)); (case hd => first | exact .inl rfl | exact .inr (.v _) | exact .inr .any | exact .inr .nils); (case hm => first | decide | (simp; done)))
 | (refine sl_nil (And.intro (by first | exact drawOk_of (by decide +kernel) | (simp only [List.map_cons, List.map_nil]; exact drawOk_of (by decide +kernel)) | decide) ?_)))
      all_goals repeat' (first | exact Lower.bool (by first | rfl | (simp only [true_and, Bool.true_and, Bool.false_and, Bool.and_true, Bool.and_false, Bool.true_or, Bool.false_or, reduceIte, Bool.false_eq_true, *]; done) | (simp only [true_and, reduceIte, Bool.false_eq_true, *] <;> rfl) | (simp [true_and]; done) | (simp_all [true_and]; done) | omega))
    cases d4 : decide (y.b - y.a < hr)
    case true =>
      clear hlst hbox hQ
      refine fn_pure Tryz.F7 (Nat.le_of_ble_eq_true rfl) ?_; unfold Tryz.ac7 AR AM AO
      repeat' (first
 | (apply sl_kg; (case hv => (simp only [go_sem, *] <;> rfl)); (case he => (simp only [go_sem, *] <;> rfl)); (case hu => (simp only [updL_nil, updL_cons] <;> rfl)); (case hl => (simp only [List.map_cons, List.map_nil] <;> rfl)); (case hp => first | (simp; omega)))
 | (apply Awp.sreg; (case hn => (simp only [List.length_cons, List.length_nil, Nat.reduceAdd] <;> rfl)))
 | (apply Awp.sdraw; (case hn => (simp only [List.length_cons, List.length_nil, Nat.reduceAdd] <;> rfl)))
 | (refine st_nil ?_)
 | (apply st_a; (case hc => rfl); (case he => (simp only [go_sem, *] <;> rfl)); (case hu => (simp only [updL_nil, updL_cons] <;> rfl)); (case hp => first | trivial | ((repeat' (refine And.intro ?_ ?_)) <;> first | trivial | assumption | omega | (simp; done) | (simp; omega) | (simp [*]; done))))
 | (apply st_m; (case hc => rfl); (case hg => (simp only [go_sem, *] <;> rfl)); (case he => (intro hQz; (try simp only [wantB_t, wantB_f, Bool.and_eq_true, Bool.not_eq_true', Bool.not_true, Bool.not_false, and_true, true_and] at hQz); simp only [go_sem, *] <;> rfl)); (case hp => (intro hQz; (try simp only [wantB_t, wantB_f, Bool.and_eq_true, Bool.not_eq_true', Bool.or_eq_false_iff, decide_eq_true_eq, decide_eq_false_iff_not, beq_iff_eq, beq_eq_false_iff_ne, bne_iff_ne, bne_eq_false_iff_eq, Int.not_lt, Int.not_le, Int.ofNat_lt, Int.ofNat_le] at hQz); first | trivial)))
 | (apply st_c; (case hc => (simp only [go_sem, *] <;> rfl)); (case hl => (simp only [go_sem, *] <;> rfl)); (case hn => (simp only [go_sem, *] <;> rfl)); (case hp => first | exact c0 | (have hXz := c0; simp only [go_sem, *] at hXz; exact hXz)))
 | (apply st_c; (case hc => (simp only [go_sem, *] <;> rfl)); (case hl => (simp only [go_sem, *] <;> rfl)); (case hn => (simp only [go_sem, *] <;> rfl)); (case hp => first | exact a0 | (have hXz := a0; simp only [go_sem, *] at hXz; exact hXz)))
 | (apply st_cd; (case hc => (simp only [go_sem, *] <;> rfl)); (case hl => (simp only [go_sem, *] <;> rfl)); (case hn => (simp only [go_sem, *] <;> rfl)); (case hp => first | exact c1 | (have hXz := c1; simp only [go_sem, *] at hXz; exact hXz)); (case hd => first | exact .v _ | exact .any | exact .nils | (repeat' (first | exact Dry.v _ | exact Dry.any | exact Dry.nils | exact Dry.slE | refine Dry.agg ?_ | refine Dry.tup ?_ | (refine List.forall_mem_cons.2 (And.intro ?_ ?_)) | (intro cQ hQ; cases hQ; done)))); (case hm => first | decide | (simp; done)))
 | (refine Awp.ret ?_; try simp only [go_sem, *])
 | (refine Awp.skip ?_; try simp only [go_sem, *])
 | (apply Awp.cond; (case hc => (simp only [go_sem, *] <;> rfl)); all_goals (intro hg; (try simp only [Bool.not_true, Bool.not_false, reduceCtorEq] at hg)))
 | refine Awp.seq ?_
 | (apply sl_a; (case hc => rfl); (case he => (simp only [go_sem, *] <;> rfl)); (case hu => (simp only [updL_nil, updL_cons] <;> rfl)); (case hl => (simp only [List.map_cons, List.map_nil] <;> rfl)); (case hp => first | trivial | (simp; done) | (simp; omega)))
 | (apply sl_ga; (case hb => rfl); (case hv => (simp only [go_sem, *] <;> rfl)); (case he => (simp only [go_sem, *] <;> rfl)); (case hu => (simp only [updL_nil, updL_cons] <;> rfl)); (case hl => (simp only [List.map_cons, List.map_nil] <;> rfl)); (case hp => first | trivial | (simp; done)))
 | (apply sl_c; (case hc => (simp only [go_sem, *] <;> rfl)); (case hl => (simp only [go_sem, *] <;> rfl)); (case hn => (simp only [go_sem, *] <;> rfl)); (case hp => first | exact c2 | (have hXz := c2; simp only [go_sem, *] at hXz; exact hXz)); (case hd => first | exact .inl rfl | exact .inr (.v _) | exact .inr .any | exact .inr .nils); (case hm => first | decide | (simp; done)))
 | (apply sl_cg; (case hop => rfl); (case hv => (simp only [go_sem, *] <;> rfl)); (case hc => (simp only [go_sem, *] <;> rfl)); (case hl => (simp only [go_sem, *] <;> rfl)); (case hn => (simp only [go_sem, *] <;> rfl)); (case hp => first | exact c3 | (have hXz := c3; simp only [go_sem, *] at hXz; exact hXz)); (case hd => first | exact .inl rfl | exact .inr (.v _) | exact .inr .any | exact .inr .nils); (case hm => first | decide | (simp; done)))
 | (refine sl_nil (And.intro (by first | exact drawOk_of (by decide +kernel) | (simp only [List.map_cons, List.map_nil]; exact drawOk_of (by decide +kernel)) | decide) ?_)))
      all_goals repeat' (first | exact Lower.bool (by first | rfl | (simp only [true_and, Bool.true_and, Bool.false_and, Bool.and_true, Bool.and_false, Bool.true_or, Bool.false_or, reduceIte, Bool.false_eq_true, *]; done) | (simp only [true_and, reduceIte, Bool.false_eq_true, *] <;> rfl) | (simp [true_and]; done) | (simp_all [true_and]; done) | omega))
    have d3' := of_decide_eq_false d3
    have d4' := of_decide_eq_false d4
    obtain ⟨z2, e1, e2, e3⟩ := hlst rfl (by omega) (by omega)
    obtain ⟨rfl, _⟩ := Prod.mk.inj e1
    simp only at e2 e3
    clear hlst hbox hQ e1
    have d5 : decide (y.a < za) = false := decide_eq_false (by omega)
    change Hid _ at e3
    refine fn_pure Tryz.F7 (Nat.le_of_ble_eq_true rfl) ?_; unfold Tryz.ac7 AR AM AO
    repeat' (first
 | (apply sl_kg; (case hv => (simp only [go_sem, *] <;> rfl)); (case he => (simp only [go_sem, *] <;> rfl)); (case hu => (simp only [updL_nil, updL_cons] <;> rfl)); (case hl => (simp only [List.map_cons, List.map_nil] <;> rfl)); (case hp => first | (simp; omega)))
 | (apply Awp.sreg; (case hn => (simp only [List.length_cons, List.length_nil, Nat.reduceAdd] <;> rfl)))
 | (apply Awp.sdraw; (case hn => (simp only [List.length_cons, List.length_nil, Nat.reduceAdd] <;> rfl)))
 | (refine st_nil ?_)
 | (apply st_a; (case hc => rfl); (case he => (simp only [go_sem, *] <;> rfl)); (case hu => (simp only [updL_nil, updL_cons] <;> rfl)); (case hp => first | trivial | ((repeat' (refine And.intro ?_ ?_)) <;> first | trivial | assumption | omega | (simp; done) | (simp; omega) | (simp [*]; done))))
 | (apply st_m; (case hc => rfl); (case hg => (simp only [go_sem, *] <;> rfl)); (case he => (intro hQz; (try simp only [wantB_t, wantB_f, Bool.and_eq_true, Bool.not_eq_true', Bool.not_true, Bool.not_false, and_true, true_and] at hQz); simp only [go_sem, *] <;> rfl)); (case hp => (intro hQz; (try simp only [wantB_t, wantB_f, Bool.and_eq_true, Bool.not_eq_true', Bool.or_eq_false_iff, decide_eq_true_eq, decide_eq_false_iff_not, beq_iff_eq, beq_eq_false_iff_ne, bne_iff_ne, bne_eq_false_iff_eq, Int.not_lt, Int.not_le, Int.ofNat_lt, Int.ofNat_le] at hQz); first | trivial)))
 | (apply st_c; (case hc => (simp only [go_sem, *] <;> rfl)); (case hl => (simp only [go_sem, *] <;> rfl)); (case hn => (simp only [go_sem, *] <;> rfl)); (case hp => first | exact c0 | (have hXz := c0; simp only [go_sem, *] at hXz; exact hXz)))
 | (apply st_cd; (case hc => (simp only [go_sem, *] <;> rfl)); (case hl => (simp only [go_sem, *] <;> rfl)); (case hn => (simp only [go_sem, *] <;> rfl)); (case hp => first | exact c1 | (have hXz := c1; simp only [go_sem, *] at hXz; exact hXz)); (case hd => first | exact .v _ | exact .any | exact .nils | (repeat' (first | exact Dry.v _ | exact Dry.any | exact Dry.nils | exact Dry.slE | refine Dry.agg ?_ | refine Dry.tup ?_ | (refine List.forall_mem_cons.2 (And.intro ?_ ?_)) | (intro cQ hQ; cases hQ; done)))); (case hm => first | decide | (simp; done)))
 | (refine Awp.skip ?_; try simp only [go_sem, *])
 | refine Awp.block ?_
 | (apply Awp.cond; (case hc => (simp only [go_sem, *] <;> rfl)); all_goals (intro hg; (try simp only [Bool.not_true, Bool.not_false, reduceCtorEq] at hg)))
 | refine Awp.seq ?_
 | (apply sl_a; (case hc => rfl); (case he => (simp only [go_sem, *] <;> rfl)); (case hu => (simp only [updL_nil, updL_cons] <;> rfl)); (case hl => (simp only [List.map_cons, List.map_nil] <;> rfl)); (case hp => first | trivial | (simp; done) | (simp; omega)))
 | (apply sl_ga; (case hb => rfl); (case hv => (simp only [go_sem, *] <;> rfl)); (case he => (simp only [go_sem, *] <;> rfl)); (case hu => (simp only [updL_nil, updL_cons] <;> rfl)); (case hl => (simp only [List.map_cons, List.map_nil] <;> rfl)); (case hp => first | trivial | (simp; done)))
 | (apply sl_c; (case hc => (simp only [go_sem, *] <;> rfl)); (case hl => (simp only [go_sem, *] <;> rfl)); (case hn => (simp only [go_sem, *] <;> rfl)); (case hp => first | exact c2 | (have hXz := c2; simp only [go_sem, *] at hXz; exact hXz)); (case hd => first | exact .inl rfl | exact .inr (.v _) | exact .inr .any | exact .inr .nils); (case hm => first | decide | (simp; done)))
 | (apply sl_cg; (case hop => rfl); (case hv => (simp only [go_sem, *] <;> rfl)); (case hc => (simp only [go_sem, *] <;> rfl)); (case hl => (simp only [go_sem, *] <;> rfl)); (case hn => (simp only [go_sem, *] <;> rfl)); (case hp => first | exact c3 | (have hXz := c3; simp only [go_sem, *] at hXz; exact hXz)); (case hd => first | exact .inl rfl | exact .inr (.v _) | exact .inr .any | exact .inr .nils); (case hm => first | decide | (simp; done)))
 | (refine sl_nil (And.intro (by first | exact drawOk_of (by decide +kernel) | (simp only [List.map_cons, List.map_nil]; exact drawOk_of (by decide +kernel)) | decide) ?_)))
    clear c0 c1 c2 c3 g1 g2 g3 g4 g5 g6 d1 d2 d3 d4 d5 w1 w2
    refine Awp.loop (fun i : Nat => i ≤ bs.length ∧ ∀ j, j < i → za = y.a ∧ (bs.getD j zeroBy).nm ≠ zbay) 400 (fun i => fi1 bs l y ⟨y.item, zbay, zx, zy, y.len, y.wid, za, zb⟩ i) (fun i => bs.length - i) 0 (by simp) ?_ ?_
    · unfold fi1
      clear e3
      (apply Ghost.mk [(0, 0), (1, 1), (2, 66)] []; (case hdead => rfl); (case hinj => rfl); (case hV => (simp only [go_sem, *]) <;> (repeat' (first | refine And.intro ?_ ?_ | exact View.int (by first | rfl | omega | (simp; done) | (rw [wrap_i64] <;> (try simp only [Int.natCast_add]) <;> omega) | (simp [*]; done)) | exact .bp rfl (by decide)))); (case hB => (simp only [go_sem, *]) <;> (repeat' (first | refine And.intro ?_ ?_ | exact ⟨_, rfl, BView.boxF rfl⟩))))
    · intro i ⟨hi, hj⟩
      unfold Hid at e3
      by_cases hgo : i < bs.length ∧ za = y.a ∧ (bs.getD i zeroBy).nm ≠ zbay
      · obtain ⟨m1, m2, m3⟩ := hgo
        have hlt' : (i : Int) < bs.length := by omega
        have hlt0 : (0 : Int) ≤ i := by omega
        have hat := bys_at bs i m1
        have hz3 : ((bs.getD i zeroBy).cells).length = 3 := rfl
        have n1 := strs_neq m3
        have n2 := strs_neq ((e3 m2).1 i m1 fun j hji => by
          rcases Nat.lt_or_ge j i with h | h
          · exact (hj j h).2
          · have : j = i := by omega
            rw [this]; exact m3)
        have hnx : Hid (∀ j, j < i + 1 → za = y.a ∧ (bs.getD j zeroBy).nm ≠ zbay) := ltSucc hj ⟨m2, m3⟩
        have m4 : (za == y.a) = true := beq_iff_eq.2 m2
        have hbb : bs.length < 1000000 := by omega
        clear hj e3 m3 m2
        generalize bs.getD i zeroBy = d at *
        unfold fi1
        repeat' (first
 | (apply Awp.sdraw; (case hn => (simp only [List.length_cons, List.length_nil, Nat.reduceAdd] <;> rfl)))
 | (refine st_nil ?_)
 | (apply st_a; (case hc => rfl); (case he => (simp only [go_sem, *] <;> rfl)); (case hu => (simp only [updL_nil, updL_cons] <;> rfl)); (case hp => first | trivial))
 | (apply Awp.reg; (case hn => (simp only [List.length_cons, List.length_nil, Nat.reduceAdd] <;> rfl)))
 | (refine Awp.skip ?_; try simp only [go_sem, *])
 | refine Awp.block ?_
 | (apply Awp.cond; (case hc => (simp only [go_sem, *] <;> rfl)); all_goals (intro hg; (try simp only [Bool.not_true, Bool.not_false, reduceCtorEq] at hg)))
 | refine Awp.seq ?_
 | (apply sl_a; (case hc => rfl); (case he => (simp only [go_sem, *] <;> rfl)); (case hu => (simp only [updL_nil, updL_cons] <;> rfl)); (case hl => (simp only [List.map_cons, List.map_nil] <;> rfl)); (case hp => first | trivial))
 | (apply sl_ga; (case hb => rfl); (case hv => (simp only [go_sem, *] <;> rfl)); (case he => (simp only [go_sem, *] <;> rfl)); (case hu => (simp only [updL_nil, updL_cons] <;> rfl)); (case hl => (simp only [List.map_cons, List.map_nil] <;> rfl)); (case hp => first | trivial))
 | (refine sl_nil (And.intro (by first | exact drawOk_of (by decide +kernel) | (simp only [List.map_cons, List.map_nil]; exact drawOk_of (by decide +kernel)) | decide) ?_)))
        refine ⟨i + 1, ⟨by omega, hnx⟩, by omega, ?_⟩
        clear hnx
        (apply Ghost.mk [] []; (case hdead => rfl); (case hinj => rfl); (case hV => (simp only [go_sem, *]) <;> (repeat' (first | refine And.intro ?_ ?_ | exact View.int (by first | rfl | omega | (simp; done) | (rw [wrap_i64] <;> (try simp only [Int.natCast_add]) <;> omega) | (simp [*]; done)) | exact .bp rfl (by decide)))); (case hB => (simp only [go_sem, *]) <;> (repeat' (first | refine And.intro ?_ ?_ | exact ⟨_, rfl, BView.boxF rfl⟩))))
      · have hfin : ∀ R : Bool, R = (decide (za < y.a) || !(zbay.toList == y.bay.toList) || decide (zb ≤ y.b)) → R = true := by
          intro R hR
          rw [hR]
          by_cases m2 : za = y.a
          · by_cases m3 : zbay = y.bay
            · have := (e3 m2).2 m3
              rw [decide_eq_true this, Bool.or_true]
            · rw [strs_neq m3]; simp
          · rw [decide_eq_true (show za < y.a by omega)]; rfl
        have hfin := hfin _ rfl
        change Hid _ at e3
        by_cases m1 : i < bs.length
        · have hlt' : (i : Int) < bs.length := by omega
          have hlt0 : (0 : Int) ≤ i := by omega
          have hat := bys_at bs i m1
          have hz3 : ((bs.getD i zeroBy).cells).length = 3 := rfl
          by_cases m2 : za = y.a
          · have m3 : (bs.getD i zeroBy).nm = zbay := Classical.byContradiction fun h => hgo ⟨m1, m2, h⟩
            have n1 : ((bs.getD i zeroBy).nm.toList == zbay.toList) = true := by rw [m3]; exact strs_eqq _
            have m4 : (za == y.a) = true := beq_iff_eq.2 m2
            clear hj e3 m3 m2 hgo
            generalize bs.getD i zeroBy = d at *
            unfold fi1
            repeat' (first
 | (apply Awp.sreg; (case hn => (simp only [List.length_cons, List.length_nil, Nat.reduceAdd] <;> rfl)))
 | (apply Awp.sdraw; (case hn => (simp only [List.length_cons, List.length_nil, Nat.reduceAdd] <;> rfl)))
 | (refine st_nil ?_)
 | (apply st_a; (case hc => rfl); (case he => (simp only [go_sem, *] <;> rfl)); (case hu => (simp only [updL_nil, updL_cons] <;> rfl)); (case hp => first | trivial))
 | (apply st_m; (case hc => rfl); (case hg => (simp only [go_sem, *] <;> rfl)); (case he => (intro hQz; (try simp only [wantB_t, wantB_f, Bool.and_eq_true, Bool.not_eq_true', Bool.not_true, Bool.not_false, and_true, true_and] at hQz); simp only [go_sem, *] <;> rfl)); (case hp => (intro hQz; (try simp only [wantB_t, wantB_f, Bool.and_eq_true, Bool.not_eq_true', Bool.or_eq_false_iff, decide_eq_true_eq, decide_eq_false_iff_not, beq_iff_eq, beq_eq_false_iff_ne, bne_iff_ne, bne_eq_false_iff_eq, Int.not_lt, Int.not_le, Int.ofNat_lt, Int.ofNat_le] at hQz); first | trivial)))
 | (apply st_mc; (case hop => rfl); (case hg => (simp only [go_sem, *] <;> rfl)); (case hc => (intro hQz; (try simp only [wantB_t, wantB_f, Bool.and_eq_true, Bool.not_eq_true', Bool.not_true, Bool.not_false, and_true, true_and] at hQz); simp only [go_sem, *] <;> rfl)); (case hl => (intro hQz; (try simp only [wantB_t, wantB_f, Bool.and_eq_true, Bool.not_eq_true', Bool.not_true, Bool.not_false, and_true, true_and] at hQz); simp only [go_sem, *] <;> rfl)); (case hn => (intro hQz; (try simp only [wantB_t, wantB_f, Bool.and_eq_true, Bool.not_eq_true', Bool.not_true, Bool.not_false, and_true, true_and] at hQz); simp only [go_sem, *] <;> rfl)); (case hp => intro hQz; first | exact a0 | (have hXz := a0; simp only [go_sem, *] at hXz; exact hXz)))
 | (refine Awp.ret ?_; try simp only [go_sem, *])
 | (refine Awp.exit ?_; try simp only [go_sem, *])
 | (apply Awp.cond; (case hc => (simp only [go_sem, *] <;> rfl)); all_goals (intro hg; (try simp only [Bool.not_true, Bool.not_false, reduceCtorEq] at hg)))
 | refine Awp.seq ?_
 | (apply sl_a; (case hc => rfl); (case he => (simp only [go_sem, *] <;> rfl)); (case hu => (simp only [updL_nil, updL_cons] <;> rfl)); (case hl => (simp only [List.map_cons, List.map_nil] <;> rfl)); (case hp => first | trivial))
 | (apply sl_ga; (case hb => rfl); (case hv => (simp only [go_sem, *] <;> rfl)); (case he => (simp only [go_sem, *] <;> rfl)); (case hu => (simp only [updL_nil, updL_cons] <;> rfl)); (case hl => (simp only [List.map_cons, List.map_nil] <;> rfl)); (case hp => first | trivial))
 | (refine sl_nil (And.intro (by first | exact drawOk_of (by decide +kernel) | (simp only [List.map_cons, List.map_nil]; exact drawOk_of (by decide +kernel)) | decide) ?_)))
            all_goals repeat' (first | exact Lower.bool (by first | rfl | (simp only [true_and, Bool.true_and, Bool.false_and, Bool.and_true, Bool.and_false, Bool.true_or, Bool.false_or, reduceIte, Bool.false_eq_true, *]; done) | (simp only [true_and, reduceIte, Bool.false_eq_true, *] <;> rfl) | (simp [true_and]; done) | (simp_all [true_and]; done) | omega))
          · have m4 : (za == y.a) = false := by rw [beq_eq_false_iff_ne]; exact m2
            clear hj e3 m2 hgo
            unfold fi1
            repeat' (first
 | (apply Awp.sreg; (case hn => (simp only [List.length_cons, List.length_nil, Nat.reduceAdd] <;> rfl)))
 | (apply Awp.sdraw; (case hn => (simp only [List.length_cons, List.length_nil, Nat.reduceAdd] <;> rfl)))
 | (refine st_nil ?_)
 | (apply st_a; (case hc => rfl); (case he => (simp only [go_sem, *] <;> rfl)); (case hu => (simp only [updL_nil, updL_cons] <;> rfl)); (case hp => first | trivial))
 | (apply st_m; (case hc => rfl); (case hg => (simp only [go_sem, *] <;> rfl)); (case he => (intro hQz; (try simp only [wantB_t, wantB_f, Bool.and_eq_true, Bool.not_eq_true', Bool.not_true, Bool.not_false, and_true, true_and] at hQz); simp only [go_sem, *] <;> rfl)); (case hp => (intro hQz; (try simp only [wantB_t, wantB_f, Bool.and_eq_true, Bool.not_eq_true', Bool.or_eq_false_iff, decide_eq_true_eq, decide_eq_false_iff_not, beq_iff_eq, beq_eq_false_iff_ne, bne_iff_ne, bne_eq_false_iff_eq, Int.not_lt, Int.not_le, Int.ofNat_lt, Int.ofNat_le] at hQz); first | trivial)))
 | (apply st_mc; (case hop => rfl); (case hg => (simp only [go_sem, *] <;> rfl)); (case hc => (intro hQz; (try simp only [wantB_t, wantB_f, Bool.and_eq_true, Bool.not_eq_true', Bool.not_true, Bool.not_false, and_true, true_and] at hQz); simp only [go_sem, *] <;> rfl)); (case hl => (intro hQz; (try simp only [wantB_t, wantB_f, Bool.and_eq_true, Bool.not_eq_true', Bool.not_true, Bool.not_false, and_true, true_and] at hQz); simp only [go_sem, *] <;> rfl)); (case hn => (intro hQz; (try simp only [wantB_t, wantB_f, Bool.and_eq_true, Bool.not_eq_true', Bool.not_true, Bool.not_false, and_true, true_and] at hQz); simp only [go_sem, *] <;> rfl)); (case hp => intro hQz; first | exact a0 | (have hXz := a0; simp only [go_sem, *] at hXz; exact hXz)))
 | (refine Awp.ret ?_; try simp only [go_sem, *])
 | (refine Awp.exit ?_; try simp only [go_sem, *])
 | (apply Awp.cond; (case hc => (simp only [go_sem, *] <;> rfl)); all_goals (intro hg; (try simp only [Bool.not_true, Bool.not_false, reduceCtorEq] at hg)))
 | refine Awp.seq ?_
 | (apply sl_a; (case hc => rfl); (case he => (simp only [go_sem, *] <;> rfl)); (case hu => (simp only [updL_nil, updL_cons] <;> rfl)); (case hl => (simp only [List.map_cons, List.map_nil] <;> rfl)); (case hp => first | trivial))
 | (apply sl_gn; (case hv => (simp only [go_sem, *] <;> rfl)); (case hbw => rfl))
 | (apply sl_ga; (case hb => rfl); (case hv => (simp only [go_sem, *] <;> rfl)); (case he => (simp only [go_sem, *] <;> rfl)); (case hu => (simp only [updL_nil, updL_cons] <;> rfl)); (case hl => (simp only [List.map_cons, List.map_nil] <;> rfl)); (case hp => first | trivial))
 | (refine sl_nil (And.intro (by first | exact drawOk_of (by decide +kernel) | (simp only [List.map_cons, List.map_nil]; exact drawOk_of (by decide +kernel)) | decide) ?_)))
            all_goals repeat' (first | exact Lower.bool (by first | rfl | (simp only [true_and, Bool.true_and, Bool.false_and, Bool.and_true, Bool.and_false, Bool.true_or, Bool.false_or, reduceIte, Bool.false_eq_true, *]; done) | (simp only [true_and, reduceIte, Bool.false_eq_true, *] <;> rfl) | (simp [true_and]; done) | (simp_all [true_and]; done) | omega))
        · have hlt' : ¬ (i : Int) < bs.length := by omega
          clear hj e3 hgo
          unfold fi1
          repeat' (first
 | (apply Awp.sreg; (case hn => (simp only [List.length_cons, List.length_nil, Nat.reduceAdd] <;> rfl)))
 | (apply Awp.sdraw; (case hn => (simp only [List.length_cons, List.length_nil, Nat.reduceAdd] <;> rfl)))
 | (refine st_nil ?_)
 | (apply st_a; (case hc => rfl); (case he => (simp only [go_sem, *] <;> rfl)); (case hu => (simp only [updL_nil, updL_cons] <;> rfl)); (case hp => first | trivial))
 | (apply st_m; (case hc => rfl); (case hg => (simp only [go_sem, *] <;> rfl)); (case he => (intro hQz; (try simp only [wantB_t, wantB_f, Bool.and_eq_true, Bool.not_eq_true', Bool.not_true, Bool.not_false, and_true, true_and] at hQz); simp only [go_sem, *] <;> rfl)); (case hp => (intro hQz; (try simp only [wantB_t, wantB_f, Bool.and_eq_true, Bool.not_eq_true', Bool.or_eq_false_iff, decide_eq_true_eq, decide_eq_false_iff_not, beq_iff_eq, beq_eq_false_iff_ne, bne_iff_ne, bne_eq_false_iff_eq, Int.not_lt, Int.not_le, Int.ofNat_lt, Int.ofNat_le] at hQz); first | trivial)))
 | (apply st_mc; (case hop => rfl); (case hg => (simp only [go_sem, *] <;> rfl)); (case hc => (intro hQz; (try simp only [wantB_t, wantB_f, Bool.and_eq_true, Bool.not_eq_true', Bool.not_true, Bool.not_false, and_true, true_and] at hQz); simp only [go_sem, *] <;> rfl)); (case hl => (intro hQz; (try simp only [wantB_t, wantB_f, Bool.and_eq_true, Bool.not_eq_true', Bool.not_true, Bool.not_false, and_true, true_and] at hQz); simp only [go_sem, *] <;> rfl)); (case hn => (intro hQz; (try simp only [wantB_t, wantB_f, Bool.and_eq_true, Bool.not_eq_true', Bool.not_true, Bool.not_false, and_true, true_and] at hQz); simp only [go_sem, *] <;> rfl)); (case hp => intro hQz; first | exact a0 | (have hXz := a0; simp only [go_sem, *] at hXz; exact hXz)))
 | (refine Awp.ret ?_; try simp only [go_sem, *])
 | (refine Awp.exit ?_; try simp only [go_sem, *])
 | (apply Awp.cond; (case hc => (simp only [go_sem, *] <;> rfl)); all_goals (intro hg; (try simp only [Bool.not_true, Bool.not_false, reduceCtorEq] at hg)))
 | refine Awp.seq ?_
 | (apply sl_a; (case hc => rfl); (case he => (simp only [go_sem, *] <;> rfl)); (case hu => (simp only [updL_nil, updL_cons] <;> rfl)); (case hl => (simp only [List.map_cons, List.map_nil] <;> rfl)); (case hp => first | trivial))
 | (apply sl_gn; (case hv => (simp only [go_sem, *] <;> rfl)); (case hbw => rfl))
 | (refine sl_nil (And.intro (by first | exact drawOk_of (by decide +kernel) | (simp only [List.map_cons, List.map_nil]; exact drawOk_of (by decide +kernel)) | decide) ?_)))
          all_goals repeat' (first | exact Lower.bool (by first | rfl | (simp only [true_and, Bool.true_and, Bool.false_and, Bool.and_true, Bool.and_false, Bool.true_or, Bool.false_or, reduceIte, Bool.false_eq_true, *]; done) | (simp only [true_and, reduceIte, Bool.false_eq_true, *] <;> rfl) | (simp [true_and]; done) | (simp_all [true_and]; done) | omega))
  · have he1 : (e == 0) = false := by rw [beq_eq_false_iff_ne]; exact he
    clear hsnd hchk
    have hno : ¬ (q = 0 ∧ fr ≤ y.a ∧ y.a + hr ≤ y.b) := fun ⟨h1, h2, h3⟩ => by
      subst h1
      obtain ⟨z2, e1, _⟩ := hlst rfl h2 h3
      exact he (Prod.mk.inj e1).2
    simp only [Sty.cells] at c2
    by_cases hq : q = 0
    case neg =>
      have hq' : (q != 0) = true := by simpa using hq
      clear hlst hbox hQ hno
      refine fn_pure Tryz.F7 (Nat.le_of_ble_eq_true rfl) ?_; unfold Tryz.ac7 AR AM AO
      repeat' (first
 | (apply Awp.sreg; (case hn => (simp only [List.length_cons, List.length_nil, Nat.reduceAdd] <;> rfl)))
 | (apply Awp.sdraw; (case hn => (simp only [List.length_cons, List.length_nil, Nat.reduceAdd] <;> rfl)))
 | (refine st_nil ?_)
 | (apply st_a; (case hc => rfl); (case he => (simp only [go_sem, *] <;> rfl)); (case hu => (simp only [updL_nil, updL_cons] <;> rfl)); (case hp => first | trivial | ((repeat' (refine And.intro ?_ ?_)) <;> first | trivial | assumption | omega | (simp; done) | (simp; omega) | (simp [*]; done))))
 | (apply st_m; (case hc => rfl); (case hg => (simp only [go_sem, *] <;> rfl)); (case he => (intro hQz; (try simp only [wantB_t, wantB_f, Bool.and_eq_true, Bool.not_eq_true', Bool.not_true, Bool.not_false, and_true, true_and] at hQz); simp only [go_sem, *] <;> rfl)); (case hp => (intro hQz; (try simp only [wantB_t, wantB_f, Bool.and_eq_true, Bool.not_eq_true', Bool.or_eq_false_iff, decide_eq_true_eq, decide_eq_false_iff_not, beq_iff_eq, beq_eq_false_iff_ne, bne_iff_ne, bne_eq_false_iff_eq, Int.not_lt, Int.not_le, Int.ofNat_lt, Int.ofNat_le] at hQz); first | trivial)))
 | (apply st_c; (case hc => (simp only [go_sem, *] <;> rfl)); (case hl => (simp only [go_sem, *] <;> rfl)); (case hn => (simp only [go_sem, *] <;> rfl)); (case hp => first | exact c0 | (have hXz := c0; simp only [go_sem, *] at hXz; exact hXz)))
 | (apply st_c; (case hc => (simp only [go_sem, *] <;> rfl)); (case hl => (simp only [go_sem, *] <;> rfl)); (case hn => (simp only [go_sem, *] <;> rfl)); (case hp => first | exact a0 | (have hXz := a0; simp only [go_sem, *] at hXz; exact hXz)))
 | (apply st_cd; (case hc => (simp only [go_sem, *] <;> rfl)); (case hl => (simp only [go_sem, *] <;> rfl)); (case hn => (simp only [go_sem, *] <;> rfl)); (case hp => first | exact c1 | (have hXz := c1; simp only [go_sem, *] at hXz; exact hXz)); (case hd => first | exact .v _ | exact .any | exact .nils | (repeat' (first | exact Dry.v _ | exact Dry.any | exact Dry.nils | exact Dry.slE | refine Dry.agg ?_ | refine Dry.tup ?_ | (refine List.forall_mem_cons.2 (And.intro ?_ ?_)) | (intro cQ hQ; cases hQ; done)))); (case hm => first | decide | (simp; done)))
 | (refine Awp.ret ?_; try simp only [go_sem, *])
 | (refine Awp.skip ?_; try simp only [go_sem, *])
 | (apply Awp.cond; (case hc => (simp only [go_sem, *] <;> rfl)); all_goals (intro hg; (try simp only [Bool.not_true, Bool.not_false, reduceCtorEq] at hg)))
 | refine Awp.seq ?_
 | (apply sl_a; (case hc => rfl); (case he => (simp only [go_sem, *] <;> rfl)); (case hu => (simp only [updL_nil, updL_cons] <;> rfl)); (case hl => (simp only [List.map_cons, List.map_nil] <;> rfl)); (case hp => first | trivial | (simp; done) | (simp; omega)))
 | (apply sl_gu; (case hv => (simp only [go_sem, *] <;> rfl)))
 | (apply sl_gn; (case hv => (simp only [go_sem, *] <;> rfl)); (case hbw => rfl))
 | (apply sl_c; (case hc => (simp only [go_sem, *] <;> rfl)); (case hl => (simp only [go_sem, *] <;> rfl)); (case hn => (simp only [go_sem, *] <;> rfl)); (case hp => first | exact c2 | (have hXz := c2; simp only [go_sem, *] at hXz; exact hXz)); (case hd => first | exact .inl rfl | exact .inr (.v _) | exact .inr .any | exact .inr .nils); (case hm => first | decide | (simp; done)))
 | (refine sl_nil (And.intro (by first | exact drawOk_of (by decide +kernel) | (simp only [List.map_cons, List.map_nil]; exact drawOk_of (by decide +kernel)) | decide) ?_)))
      all_goals repeat' (first | exact Lower.bool (by first | rfl | (simp only [true_and, Bool.true_and, Bool.false_and, Bool.and_true, Bool.and_false, Bool.true_or, Bool.false_or, reduceIte, Bool.false_eq_true, *]; done) | (simp only [true_and, reduceIte, Bool.false_eq_true, *] <;> rfl) | (simp [true_and]; done) | (simp_all [true_and]; done) | omega))
    subst hq
    obtain ⟨u1, u2, u3⟩ := hbox rfl
    have w2 : IntKind.i64.wrap (y.b - y.a) = y.b - y.a := wrap_i64 (by omega) (by omega)
    cases d3 : decide (y.a < fr)
    case true =>
      clear hlst hbox hQ hno
      refine fn_pure Tryz.F7 (Nat.le_of_ble_eq_true rfl) ?_; unfold Tryz.ac7 AR AM AO
      repeat' (first
 | (apply Awp.sreg; (case hn => (simp only [List.length_cons, List.length_nil, Nat.reduceAdd] <;> rfl)))
 | (apply Awp.sdraw; (case hn => (simp only [List.length_cons, List.length_nil, Nat.reduceAdd] <;> rfl)))
 | (refine st_nil ?_)
 | (apply st_a; (case hc => rfl); (case he => (simp only [go_sem, *] <;> rfl)); (case hu => (simp only [updL_nil, updL_cons] <;> rfl)); (case hp => first | trivial | ((repeat' (refine And.intro ?_ ?_)) <;> first | trivial | assumption | omega | (simp; done) | (simp; omega) | (simp [*]; done))))
 | (apply st_m; (case hc => rfl); (case hg => (simp only [go_sem, *] <;> rfl)); (case he => (intro hQz; (try simp only [wantB_t, wantB_f, Bool.and_eq_true, Bool.not_eq_true', Bool.not_true, Bool.not_false, and_true, true_and] at hQz); simp only [go_sem, *] <;> rfl)); (case hp => (intro hQz; (try simp only [wantB_t, wantB_f, Bool.and_eq_true, Bool.not_eq_true', Bool.or_eq_false_iff, decide_eq_true_eq, decide_eq_false_iff_not, beq_iff_eq, beq_eq_false_iff_ne, bne_iff_ne, bne_eq_false_iff_eq, Int.not_lt, Int.not_le, Int.ofNat_lt, Int.ofNat_le] at hQz); first | trivial)))
 | (apply st_c; (case hc => (simp only [go_sem, *] <;> rfl)); (case hl => (simp only [go_sem, *] <;> rfl)); (case hn => (simp only [go_sem, *] <;> rfl)); (case hp => first | exact c0 | (have hXz := c0; simp only [go_sem, *] at hXz; exact hXz)))
 | (apply st_c; (case hc => (simp only [go_sem, *] <;> rfl)); (case hl => (simp only [go_sem, *] <;> rfl)); (case hn => (simp only [go_sem, *] <;> rfl)); (case hp => first | exact a0 | (have hXz := a0; simp only [go_sem, *] at hXz; exact hXz)))
 | (apply st_cd; (case hc => (simp only [go_sem, *] <;> rfl)); (case hl => (simp only [go_sem, *] <;> rfl)); (case hn => (simp only [go_sem, *] <;> rfl)); (case hp => first | exact c1 | (have hXz := c1; simp only [go_sem, *] at hXz; exact hXz)); (case hd => first | exact .v _ | exact .any | exact .nils | (repeat' (first | exact Dry.v _ | exact Dry.any | exact Dry.nils | exact Dry.slE | refine Dry.agg ?_ | refine Dry.tup ?_ | (refine List.forall_mem_cons.2 (And.intro ?_ ?_)) | (intro cQ hQ; cases hQ; done)))); (case hm => first | decide | (simp; done)))
 | (refine Awp.ret ?_; try simp only [go_sem, *])
 | (refine Awp.skip ?_; try simp only [go_sem, *])
 | (apply Awp.cond; (case hc => (simp only [go_sem, *] <;> rfl)); all_goals (intro hg; (try simp only [Bool.not_true, Bool.not_false, reduceCtorEq] at hg)))
 | refine Awp.seq ?_
 | (apply sl_a; (case hc => rfl); (case he => (simp only [go_sem, *] <;> rfl)); (case hu => (simp only [updL_nil, updL_cons] <;> rfl)); (case hl => (simp only [List.map_cons, List.map_nil] <;> rfl)); (case hp => first | trivial | (simp; done) | (simp; omega)))
 | (apply sl_gu; (case hv => (simp only [go_sem, *] <;> rfl)))
 | (apply sl_gn; (case hv => (simp only [go_sem, *] <;> rfl)); (case hbw => rfl))
 | (apply sl_ga; (case hb => rfl); (case hv => (simp only [go_sem, *] <;> rfl)); (case he => (simp only [go_sem, *] <;> rfl)); (case hu => (simp only [updL_nil, updL_cons] <;> rfl)); (case hl => (simp only [List.map_cons, List.map_nil] <;> rfl)); (case hp => first | trivial))
 | (apply sl_c; (case hc => (simp only [go_sem, *] <;> rfl)); (case hl => (simp only [go_sem, *] <;> rfl)); (case hn => (simp only [go_sem, *] <;> rfl)); (case hp => first | exact c2 | (have hXz := c2; simp only [go_sem, *] at hXz; exact hXz)); (case hd => first | exact .inl rfl | exact .inr (.v _) | exact .inr .any | exact .inr .nils); (case hm => first | decide | (simp; done)))
 | (refine sl_nil (And.intro (by first | exact drawOk_of (by decide +kernel) | (simp only [List.map_cons, List.map_nil]; exact drawOk_of (by decide +kernel)) | decide) ?_)))
      all_goals repeat' (first | exact Lower.bool (by first | rfl | (simp only [true_and, Bool.true_and, Bool.false_and, Bool.and_true, Bool.and_false, Bool.true_or, Bool.false_or, reduceIte, Bool.false_eq_true, *]; done) | (simp only [true_and, reduceIte, Bool.false_eq_true, *] <;> rfl) | (simp [true_and]; done) | (simp_all [true_and]; done) | omega))
    cases d4 : decide (y.b - y.a < hr)
    case true =>
      clear hlst hbox hQ hno
      refine fn_pure Tryz.F7 (Nat.le_of_ble_eq_true rfl) ?_; unfold Tryz.ac7 AR AM AO
      repeat' (first
 | (apply Awp.sreg; (case hn => (simp only [List.length_cons, List.length_nil, Nat.reduceAdd] <;> rfl)))
 | (apply Awp.sdraw; (case hn => (simp only [List.length_cons, List.length_nil, Nat.reduceAdd] <;> rfl)))
 | (refine st_nil ?_)
 | (apply st_a; (case hc => rfl); (case he => (simp only [go_sem, *] <;> rfl)); (case hu => (simp only [updL_nil, updL_cons] <;> rfl)); (case hp => first | trivial | ((repeat' (refine And.intro ?_ ?_)) <;> first | trivial | assumption | omega | (simp; done) | (simp; omega) | (simp [*]; done))))
 | (apply st_m; (case hc => rfl); (case hg => (simp only [go_sem, *] <;> rfl)); (case he => (intro hQz; (try simp only [wantB_t, wantB_f, Bool.and_eq_true, Bool.not_eq_true', Bool.not_true, Bool.not_false, and_true, true_and] at hQz); simp only [go_sem, *] <;> rfl)); (case hp => (intro hQz; (try simp only [wantB_t, wantB_f, Bool.and_eq_true, Bool.not_eq_true', Bool.or_eq_false_iff, decide_eq_true_eq, decide_eq_false_iff_not, beq_iff_eq, beq_eq_false_iff_ne, bne_iff_ne, bne_eq_false_iff_eq, Int.not_lt, Int.not_le, Int.ofNat_lt, Int.ofNat_le] at hQz); first | trivial)))
 | (apply st_c; (case hc => (simp only [go_sem, *] <;> rfl)); (case hl => (simp only [go_sem, *] <;> rfl)); (case hn => (simp only [go_sem, *] <;> rfl)); (case hp => first | exact c0 | (have hXz := c0; simp only [go_sem, *] at hXz; exact hXz)))
 | (apply st_c; (case hc => (simp only [go_sem, *] <;> rfl)); (case hl => (simp only [go_sem, *] <;> rfl)); (case hn => (simp only [go_sem, *] <;> rfl)); (case hp => first | exact a0 | (have hXz := a0; simp only [go_sem, *] at hXz; exact hXz)))
 | (apply st_cd; (case hc => (simp only [go_sem, *] <;> rfl)); (case hl => (simp only [go_sem, *] <;> rfl)); (case hn => (simp only [go_sem, *] <;> rfl)); (case hp => first | exact c1 | (have hXz := c1; simp only [go_sem, *] at hXz; exact hXz)); (case hd => first | exact .v _ | exact .any | exact .nils | (repeat' (first | exact Dry.v _ | exact Dry.any | exact Dry.nils | exact Dry.slE | refine Dry.agg ?_ | refine Dry.tup ?_ | (refine List.forall_mem_cons.2 (And.intro ?_ ?_)) | (intro cQ hQ; cases hQ; done)))); (case hm => first | decide | (simp; done)))
 | (refine Awp.ret ?_; try simp only [go_sem, *])
 | (refine Awp.skip ?_; try simp only [go_sem, *])
 | (apply Awp.cond; (case hc => (simp only [go_sem, *] <;> rfl)); all_goals (intro hg; (try simp only [Bool.not_true, Bool.not_false, reduceCtorEq] at hg)))
 | refine Awp.seq ?_
 | (apply sl_a; (case hc => rfl); (case he => (simp only [go_sem, *] <;> rfl)); (case hu => (simp only [updL_nil, updL_cons] <;> rfl)); (case hl => (simp only [List.map_cons, List.map_nil] <;> rfl)); (case hp => first | trivial | (simp; done) | (simp; omega)))
 | (apply sl_gu; (case hv => (simp only [go_sem, *] <;> rfl)))
 | (apply sl_gn; (case hv => (simp only [go_sem, *] <;> rfl)); (case hbw => rfl))
 | (apply sl_ga; (case hb => rfl); (case hv => (simp only [go_sem, *] <;> rfl)); (case he => (simp only [go_sem, *] <;> rfl)); (case hu => (simp only [updL_nil, updL_cons] <;> rfl)); (case hl => (simp only [List.map_cons, List.map_nil] <;> rfl)); (case hp => first | trivial))
 | (apply sl_c; (case hc => (simp only [go_sem, *] <;> rfl)); (case hl => (simp only [go_sem, *] <;> rfl)); (case hn => (simp only [go_sem, *] <;> rfl)); (case hp => first | exact c2 | (have hXz := c2; simp only [go_sem, *] at hXz; exact hXz)); (case hd => first | exact .inl rfl | exact .inr (.v _) | exact .inr .any | exact .inr .nils); (case hm => first | decide | (simp; done)))
 | (refine sl_nil (And.intro (by first | exact drawOk_of (by decide +kernel) | (simp only [List.map_cons, List.map_nil]; exact drawOk_of (by decide +kernel)) | decide) ?_)))
      all_goals repeat' (first | exact Lower.bool (by first | rfl | (simp only [true_and, Bool.true_and, Bool.false_and, Bool.and_true, Bool.and_false, Bool.true_or, Bool.false_or, reduceIte, Bool.false_eq_true, *]; done) | (simp only [true_and, reduceIte, Bool.false_eq_true, *] <;> rfl) | (simp [true_and]; done) | (simp_all [true_and]; done) | omega))
    have d3' := of_decide_eq_false d3
    have d4' := of_decide_eq_false d4
    exact absurd ⟨rfl, by omega, by omega⟩ hno
end Go.Proofs
namespace Go.Proofs
open Go Go.Ab Go.ChangeShapes Go.WideShapes Go.ChangeAt Go.RowKit
set_option maxRecDepth 100000
section
variable {H : Type} {enc : TypeId × Value → H} {w : World} {spare : Nat → Bool} {held : Bool} {r : Reach} {b0 : Nat} {v : Value} {d : DataW H} {p : List MemPlace}
theorem arg_agg {P : Program} {t : TypeId} {cs : Array Value} (n : Nat) (ht : readsTy P n t = true)
    (hd : DataW.Trod enc P w 0 spare held t (.agg cs) d p) : ∃ qs, Shape P n t qs ∧ PureV (fun g => g < w.heap.size ∧ True) w (.agg qs) (.agg cs) := by
  obtain ⟨fuel, h⟩ := hd
  obtain ⟨_, qs, h1, h2, h3⟩ := read_ty n t ht h
  refine ⟨qs, h1, ?_⟩
  have e : cs = cs.toList.toArray := by simp
  have h2 : qs.length = cs.toList.length := h2
  rw [e]
  refine .agg _ cs.toList h2 (fun u hu => ?_) (fun j hj => ?_)
  · obtain ⟨j, hj, rfl⟩ := List.getElem_of_mem hu
    have := (h3 j (by omega)).2
    rw [Nat.zero_add] at this
    have e2 : cv (Value.agg cs).cells.toList j = cs.toList[j] := by show cv cs.toList j = _; unfold cv; rw [List.getD_eq_getElem?_getD, List.getElem?_eq_getElem hj]; rfl
    rw [e2] at this
    exact this
  · have := (h3 j hj).1
    rw [Nat.zero_add] at this
    exact this.mono fun g hg => ⟨⟨hg, trivial⟩, rfl⟩
theorem arg_x2 (hval : Value.okWide Tryz.prog w r b0 51 v) (hd : DataW.Trod enc Tryz.prog w 0 spare held 51 v d p) :
    ∃ x : Int × Int, PureV (fun g => g < w.heap.size ∧ True) w (.agg [.v (.int .i64 x.1), .v (.int .i64 x.2)]) v := by
  unfold Value.okWide at hval
  rw [Tryz.underlying51] at hval
  obtain ⟨cs, rfl, _⟩ := hval
  obtain ⟨qs, h, hp⟩ := arg_agg 3 (by kernel_rfl) hd
  unfold Shape at h
  rw [Tryz.underlying51] at h
  obtain ⟨rs, rfl, hl, he⟩ := h
  have each : ∀ q ∈ rs, ∃ i : Int, q = [.v (.int .i64 i)] := by
    intro q hq
    have h1 := he q hq
    unfold Shape at h1
    simp only [Tryz.underlying3] at h1
    obtain ⟨i, h1, _⟩ := h1
    exact ⟨i, h1⟩
  match rs, hl with
  | [q0, q1], _ =>
  obtain ⟨a0, rfl⟩ := each q0 (by simp)
  obtain ⟨a1, rfl⟩ := each q1 (by simp)
  exact ⟨(a0, a1), hp⟩
end
end Go.Proofs
