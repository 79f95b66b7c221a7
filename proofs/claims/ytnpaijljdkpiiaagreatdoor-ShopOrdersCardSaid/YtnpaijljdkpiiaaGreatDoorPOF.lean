import Derived.Test.YtnpaijljdkpiiaaGreatDoorPOE
import Derived.ProofKit
import Derived.OpenShut
import Derived.Test.YtnpaijljdkpiiaaGreatDoorCards
import Derived.Test.YtnpaijljdkpiiaaGreatDoorTie
import Derived.WalkKit
import Derived.Deep.DeepHandedRow
import Derived.Lib.LaidTab
set_option linter.unusedVariables false
set_option linter.unusedSimpArgs false
namespace Go.Proofs
open Go Go.Ab
set_option maxHeartbeats 8000000
set_option maxRecDepth 100000
attribute [local irreducible] Awp aops aopsL Go.Ab.Pure PureOwn PureTwoM
abbrev Ed := Nat × Nat
def eds (E : List Ed) : List (List AV) := E.map fun e => [.v (.int .i64 e.1), .v (.int .i64 e.2)]
@[go_sem] theorem eds_len (E : List Ed) : (eds E).length = E.length := by simp [eds]
theorem eds_at (E : List Ed) (i : Nat) (h : i < E.length) : (eds E).getD i [] = [.v (.int .i64 (E.getD i (0, 0)).1), .v (.int .i64 (E.getD i (0, 0)).2)] := by
  simp [eds, List.getD_eq_getElem?_getD, h]
theorem eds_snoc (E : List Ed) (e : Ed) : eds E ++ [[.v (.int .i64 e.1), .v (.int .i64 e.2)]] = eds (E ++ [e]) := by simp [eds]
def nts (D : List Nat) : List (List AV) := D.map fun x => [.v (.int .i64 (x : Nat))]
@[go_sem] theorem nts_nil : nts [] = [] := rfl
@[go_sem] theorem nts_len (D : List Nat) : (nts D).length = D.length := by simp [nts]
theorem nts_snoc (D : List Nat) (x : Nat) : nts D ++ [[.v (.int .i64 x)]] = nts (D ++ [x]) := by simp [nts]
theorem nts_at (D : List Nat) (i : Nat) (h : i < D.length) : (nts D).getD i [] = [.v (.int .i64 (D.getD i 0))] := by
  simp [nts, List.getD_eq_getElem?_getD, h]
def EdOk (n : Nat) (E : List Ed) : Prop := ∀ i, i < E.length → (E.getD i (0, 0)).1 < n ∧ (E.getD i (0, 0)).2 < n ∧ (E.getD i (0, 0)).1 ≠ (E.getD i (0, 0)).2
theorem dchk_ok (n : Nat) (E : List Ed) (hl : E.length < 1000000) (hE : EdOk n E) : Pure Tryz.prog 102 [.v (.int .i64 n), .sl (eds E)] (.v (.int .i64 0)) := by
  refine fn_pure Tryz.F102 (Nat.le_of_ble_eq_true rfl) ?_; unfold Tryz.ac102 AR AM AO
  repeat' (first
 | (apply Awp.sreg; (case hn => (simp only [List.length_cons, List.length_nil, Nat.reduceAdd] <;> rfl)))
 | (refine st_nil ?_)
 | (apply st_a; (case hc => rfl); (case he => (simp only [go_sem, *] <;> rfl)); (case hu => (simp only [updL_nil, updL_cons] <;> rfl)); (case hp => first | trivial))
 | refine Awp.block ?_
 | refine Awp.seq ?_)
  refine Awp.loop (fun i : Nat => i ≤ E.length) 100 (fun i => mkS [(0, .v (.int .i64 n)), (1, .sl (eds E)), (5, .v (.int .i64 i))] []) (fun i => E.length - i) 0 (Nat.zero_le _) ?_ ?_
  · clear hE
    (apply Ghost.mk [] []; (case hdead => rfl); (case hinj => rfl); (case hV => (simp only [go_sem, *]) <;> (repeat' (first | exact View.int (by first | rfl | omega | (simp; done) | (rw [wrap_i64] <;> (try simp only [Int.natCast_add]) <;> omega) | (simp [*]; done))))); (case hB => (simp only [go_sem, *]) <;> (repeat' (first | skip; done))))
  · intro i hi
    by_cases hlt : i < E.length
    · have hlt' : (i : Int) < E.length := by omega
      have hat := eds_at E i hlt
      obtain ⟨h1, h2, h3⟩ := hE i hlt
      clear hE
      generalize E.getD i (0, 0) = e at *
      obtain ⟨a, b⟩ := e
      simp only at h1 h2 h3 hat
      have d1 : decide ((a : Int) < 0) = false := decide_eq_false (by omega)
      have d2 : decide ((b : Int) < 0) = false := decide_eq_false (by omega)
      have d3 : decide ((n : Int) ≤ a) = false := decide_eq_false (by omega)
      have d4 : decide ((n : Int) ≤ b) = false := decide_eq_false (by omega)
      have d5 : ((a : Int) == b) = false := by rw [beq_eq_false_iff_ne]; omega
      clear h1 h2 h3
      repeat' (first
 | (apply Awp.sreg; (case hn => (simp only [List.length_cons, List.length_nil, Nat.reduceAdd] <;> rfl)))
 | (apply Awp.sdraw; (case hn => (simp only [List.length_cons, List.length_nil, Nat.reduceAdd] <;> rfl)))
 | (refine st_nil ?_)
 | (apply st_a; (case hc => rfl); (case he => (simp only [go_sem, *] <;> rfl)); (case hu => (simp only [updL_nil, updL_cons] <;> rfl)); (case hp => first | trivial))
 | (apply st_m; (case hc => rfl); (case hg => (simp only [go_sem, *] <;> rfl)); (case he => (intro hQz; (try simp only [wantB_t, wantB_f, Bool.and_eq_true, Bool.not_eq_true', Bool.not_true, Bool.not_false, and_true, true_and] at hQz); simp only [go_sem, *] <;> rfl)); (case hp => (intro hQz; (try simp only [wantB_t, wantB_f, Bool.and_eq_true, Bool.not_eq_true', Bool.or_eq_false_iff, decide_eq_true_eq, decide_eq_false_iff_not, beq_iff_eq, beq_eq_false_iff_ne, bne_iff_ne, bne_eq_false_iff_eq, Int.not_lt, Int.not_le, Int.ofNat_lt, Int.ofNat_le] at hQz); first | trivial)))
 | (apply Awp.reg; (case hn => (simp only [List.length_cons, List.length_nil, Nat.reduceAdd] <;> rfl)))
 | (refine Awp.skip ?_; try simp only [go_sem, *])
 | refine Awp.block ?_
 | (apply Awp.cond; (case hc => (simp only [go_sem, *] <;> rfl)); all_goals (intro hg; (try simp only [Bool.not_true, Bool.not_false, reduceCtorEq] at hg)))
 | refine Awp.seq ?_
 | (apply sl_a; (case hc => rfl); (case he => (simp only [go_sem, *] <;> rfl)); (case hu => (simp only [updL_nil, updL_cons] <;> rfl)); (case hl => (simp only [List.map_cons, List.map_nil] <;> rfl)); (case hp => first | trivial | omega))
 | (refine sl_nil (And.intro (by first | exact drawOk_of (by decide +kernel) | (simp only [List.map_cons, List.map_nil]; exact drawOk_of (by decide +kernel)) | decide) ?_)))
      refine ⟨i + 1, by omega, by omega, ?_⟩
      (apply Ghost.mk [] []; (case hdead => rfl); (case hinj => rfl); (case hV => (simp only [go_sem, *]) <;> (repeat' (first | exact View.int (by first | rfl | omega | (simp; done) | (rw [wrap_i64] <;> (try simp only [Int.natCast_add]) <;> omega) | (simp [*]; done))))); (case hB => (simp only [go_sem, *]) <;> (repeat' (first | skip; done))))
    · have hlt' : ¬ (i : Int) < E.length := by omega
      clear hE
      repeat' (first
 | (apply Awp.sreg; (case hn => (simp only [List.length_cons, List.length_nil, Nat.reduceAdd] <;> rfl)))
 | (refine st_nil ?_)
 | (apply st_a; (case hc => rfl); (case he => (simp only [go_sem, *] <;> rfl)); (case hu => (simp only [updL_nil, updL_cons] <;> rfl)); (case hp => first | trivial))
 | (refine Awp.ret ?_; try simp only [go_sem, *])
 | (refine Awp.exit ?_; try simp only [go_sem, *])
 | (apply Awp.cond; (case hc => (simp only [go_sem, *] <;> rfl)); all_goals (intro hg; (try simp only [Bool.not_true, Bool.not_false, reduceCtorEq] at hg); (try have hg' := hg); (try simp only [decide_eq_true_eq, decide_eq_false_iff_not, Bool.and_eq_true, Bool.or_eq_false_iff, bne_iff_ne, bne_eq_false_iff_eq, beq_iff_eq, beq_eq_false_iff_ne, Int.not_lt, Int.not_le, Int.ofNat_lt, Int.ofNat_le, Int.natCast_inj] at hg')))
 | refine Awp.seq ?_)
      all_goals repeat' (first | exact Lower.int (by first | rfl | (simp only [true_and, Bool.true_and, Bool.false_and, Bool.and_true, Bool.and_false, Bool.true_or, Bool.false_or, reduceIte, Bool.false_eq_true, *]; done) | (simp only [true_and, reduceIte, Bool.false_eq_true, *] <;> rfl) | (simp [true_and]; done) | (simp_all [true_and]; done) | omega))
def wtF (n : Nat) (T : List Bool) (E : List Ed) : List Bool := E.foldl (fun w e => if T.getD e.1 false then w else w.set e.2 true) (List.replicate n false)
theorem wtF_step (n : Nat) (T : List Bool) (E : List Ed) (i : Nat) (h : i < E.length) : wtF n T (E.take (i + 1)) = if T.getD (E.getD i (0, 0)).1 false then wtF n T (E.take i) else (wtF n T (E.take i)).set (E.getD i (0, 0)).2 true := by
  unfold wtF
  rw [List.take_add_one, List.getElem?_eq_getElem h, List.foldl_append]
  simp [List.getD_eq_getElem?_getD, h]
theorem wtF_len (n : Nat) (T : List Bool) : ∀ (E : List Ed) (w : List Bool), (E.foldl (fun w e => if T.getD e.1 false then w else w.set e.2 true) w).length = w.length
  | [], _ => rfl
  | e :: E, w => by
    rw [List.foldl_cons, wtF_len n T E]
    split <;> simp
def availB (n : Nat) (T : List Bool) (E : List Ed) (v : Nat) : Bool := !(T.getD v false) && !((wtF n T E).getD v false)
def dnQ (p : Nat → Bool) (n m : Nat) : Int := match (List.range' m (n - m)).find? p with
  | some v => (v : Int)
  | none => -1
theorem dnQ_step (p : Nat → Bool) (n m : Nat) (h : m < n) : dnQ p n m = if p m then (m : Int) else dnQ p n (m + 1) := by
  unfold dnQ
  have e : n - m = (n - (m + 1)) + 1 := by omega
  rw [e, List.range'_succ, List.find?_cons]
  cases p m <;> rfl
theorem dnQ_end (p : Nat → Bool) (n : Nat) : dnQ p n n = -1 := by unfold dnQ; simp
theorem dnQ_rng (p : Nat → Bool) (n m : Nat) : (dnQ p n m = -1 ∧ ∀ v, m ≤ v → v < n → p v = false) ∨ (∃ v, dnQ p n m = (v : Nat) ∧ v < n ∧ p v = true) := by
  unfold dnQ
  cases h : (List.range' m (n - m)).find? p with
  | none =>
    refine .inl ⟨rfl, fun v h1 h2 => ?_⟩
    rw [List.find?_eq_none] at h
    have := h v (by rw [List.mem_range'_1]; omega)
    simpa using this
  | some v =>
    have h1 := List.find?_some h
    have h2 := List.mem_of_find?_eq_some h
    rw [List.mem_range'_1] at h2
    exact .inr ⟨v, rfl, by omega, h1⟩
def dordG (n : Nat) (E : List Ed) : Nat → List Bool → List Nat → List Nat × Int
  | 0, _, D => (D, 0)
  | k + 1, T, D => if dnQ (availB n T E) n 0 < 0 then ([], 20) else dordG n E k (T.set (dnQ (availB n T E) n 0).toNat true) (D ++ [(dnQ (availB n T E) n 0).toNat])
def dordE (n : Nat) (E : List Ed) : List Nat × Int := dordG n E n (List.replicate n false) []
def do1 (n : Nat) (E : List Ed) (T : List Bool) (D : List Nat) : AState := mkS [(0, .v (.int .i64 n)), (1, .sl (eds E)), (7, .own 0), (8, .own 1)] [(0, .row (nts D) 1 3), (1, .row (bls T) 1 4)]
def do2 (n : Nat) (E : List Ed) (T : List Bool) (D : List Nat) (w : List Bool) (i : Nat) : AState := mkS [(0, .v (.int .i64 n)), (1, .sl (eds E)), (7, .own 0), (8, .own 1), (9, .own 2), (10, .v (.int .i64 i))] [(0, .row (nts D) 1 3), (1, .row (bls T) 1 4), (2, .row (bls w) 1 4)]
def do3 (n : Nat) (E : List Ed) (T : List Bool) (D : List Nat) (w : List Bool) (x : Int) (m : Nat) : AState := mkS [(0, .v (.int .i64 n)), (1, .sl (eds E)), (7, .own 0), (8, .own 1), (9, .own 2), (11, .v (.int .i64 x)), (12, .v (.int .i64 ((m : Int) - 1)))] [(0, .row (nts D) 1 3), (1, .row (bls T) 1 4), (2, .row (bls w) 1 4)]
theorem dord_ok (n : Nat) (E : List Ed) (hn : n ≤ 256) (hl : E.length < 1000000) (hE : EdOk n E) : Pure Tryz.prog 87 [.v (.int .i64 n), .sl (eds E)] (.tup [.sl (nts (dordE n E).1), .v (.int .i64 (dordE n E).2)]) := by
  have c0 := dchk_ok n E hl hE
  unfold dordE
  generalize hR : dordG n E n (List.replicate n false) [] = R
  have hrep := bls_rep n
  have hn1 : decide ((n : Int) < 0) = false := decide_eq_false (by omega)
  have hn2 : decide ((256 : Int) < n) = false := decide_eq_false (by omega)
  refine fn_pure Tryz.F87 (Nat.le_of_ble_eq_true rfl) ?_; unfold Tryz.ac87 AR AM AO
  repeat' (first
 | (apply Awp.sreg; (case hn => (simp only [List.length_cons, List.length_nil, Nat.reduceAdd] <;> rfl)))
 | (refine st_nil ?_)
 | (apply st_a; (case hc => rfl); (case he => (simp only [go_sem, *] <;> rfl)); (case hu => (simp only [updL_nil, updL_cons] <;> rfl)); (case hp => first | trivial | omega))
 | (apply st_m; (case hc => rfl); (case hg => (simp only [go_sem, *] <;> rfl)); (case he => (intro hQz; (try simp only [wantB_t, wantB_f, Bool.and_eq_true, Bool.not_eq_true', Bool.not_true, Bool.not_false, and_true, true_and] at hQz); simp only [go_sem, *] <;> rfl)); (case hp => (intro hQz; (try simp only [wantB_t, wantB_f, Bool.and_eq_true, Bool.not_eq_true', Bool.or_eq_false_iff, decide_eq_true_eq, decide_eq_false_iff_not, beq_iff_eq, beq_eq_false_iff_ne, bne_iff_ne, bne_eq_false_iff_eq, Int.not_lt, Int.not_le, Int.ofNat_lt, Int.ofNat_le] at hQz); first | trivial)))
 | (apply st_c; (case hc => (simp only [go_sem, *] <;> rfl)); (case hl => (simp only [go_sem, *] <;> rfl)); (case hn => (simp only [go_sem, *] <;> rfl)); (case hp => first | exact c0 | (have hXz := c0; simp only [go_sem, *] at hXz; exact hXz)))
 | (refine Awp.skip ?_; try simp only [go_sem, *])
 | refine Awp.block ?_
 | (apply Awp.cond; (case hc => (simp only [go_sem, *] <;> rfl)); all_goals (intro hg; (try simp only [Bool.not_true, Bool.not_false, reduceCtorEq] at hg)))
 | refine Awp.seq ?_)
  refine Awp.loop (fun q : List Bool × List Nat => q.2.length ≤ n ∧ q.1.length = n ∧ dordG n E (n - q.2.length) q.1 q.2 = R) 100 (fun q => do1 n E q.1 q.2) (fun q => n - q.2.length) (List.replicate n false, []) ⟨by simp, by simp, by simpa using hR⟩ ?_ ?_
  · refine Ghost.trans (Ghost.name 7 1 3 rfl (by decide)) ?_
    unfold do1
    clear hR hE
    (apply Ghost.mk [(0, 18), (1, 16)] []; (case hdead => rfl); (case hinj => rfl); (case hV => (simp only [go_sem, *]) <;> (repeat' (first | refine And.intro ?_ ?_ | exact .own rfl (by decide)))); (case hB => (simp only [go_sem, *]) <;> (repeat' (first | refine And.intro ?_ ?_ | exact ⟨_, rfl, .rowE (by first | rfl | omega | (simp; done) | (rw [wrap_i64] <;> (try simp only [Int.natCast_add]) <;> omega) | (simp [*]; done))⟩))))
  · intro ⟨T, D⟩ ⟨hD, hT, hg⟩
    simp only at hD hT hg ⊢
    clear hR c0
    by_cases hlt : D.length < n
    · have hlt' : (D.length : Int) < n := by omega
      obtain ⟨k, hk⟩ : ∃ k, n - D.length = k + 1 := ⟨n - D.length - 1, by omega⟩
      have hstep : dordG n E (n - D.length) T D = if dnQ (availB n T E) n 0 < 0 then ([], 20) else dordG n E k (T.set (dnQ (availB n T E) n 0).toNat true) (D ++ [(dnQ (availB n T E) n 0).toNat]) := by rw [hk]; rfl
      rw [hg] at hstep
      have hkD : k = n - (D.length + 1) := by omega
      change Hid _ at hstep
      clear hg hk
      unfold do1
      repeat' (first
 | (apply Awp.sreg; (case hn => (simp only [List.length_cons, List.length_nil, Nat.reduceAdd] <;> rfl)))
 | (refine st_nil ?_)
 | (apply st_a; (case hc => rfl); (case he => (simp only [go_sem, *] <;> rfl)); (case hu => (simp only [updL_nil, updL_cons] <;> rfl)); (case hp => first | trivial | omega))
 | (refine Awp.skip ?_; try simp only [go_sem, *])
 | refine Awp.block ?_
 | (apply Awp.cond; (case hc => (simp only [go_sem, *] <;> rfl)); all_goals (intro hg; (try simp only [Bool.not_true, Bool.not_false, reduceCtorEq] at hg)))
 | refine Awp.seq ?_)
      refine Awp.loop (fun i : Nat => i ≤ E.length) 200 (fun i => do2 n E T D (wtF n T (E.take i)) i) (fun i => E.length - i) 0 (Nat.zero_le _) ?_ ?_
      · have e1 : wtF n T (E.take 0) = List.replicate n false := rfl
        unfold do2
        rw [e1, hrep]
        clear hE
        (apply Ghost.mk [(2, 105)] []; (case hdead => rfl); (case hinj => rfl); (case hV => (simp only [go_sem, *]) <;> (repeat' (first | refine And.intro ?_ ?_ | exact View.int (by first | rfl | omega | (simp; done) | (rw [wrap_i64] <;> (try simp only [Int.natCast_add]) <;> omega) | (simp [*]; done)) | exact .own rfl (by decide)))); (case hB => (simp only [go_sem, *]) <;> (repeat' (first | refine And.intro ?_ ?_ | exact ⟨_, rfl, .rowE (by first | rfl | omega | (simp; done) | (rw [wrap_i64] <;> (try simp only [Int.natCast_add]) <;> omega) | (simp [*]; done))⟩))))
      · intro i hi
        clear hrep
        have hwl : (wtF n T (E.take i)).length = n := by unfold wtF; rw [wtF_len n T, List.length_replicate]
        by_cases hlt : i < E.length
        · have hlt' : (i : Int) < E.length := by omega
          have hat := eds_at E i hlt
          have hst := wtF_step n T E i hlt
          obtain ⟨h1, h2, h3⟩ := hE i hlt
          clear hE hstep
          unfold do2
          generalize E.getD i (0, 0) = e at *
          obtain ⟨a, b⟩ := e
          simp only at h1 h2 h3 hat hst
          have ha0 : (0 : Int) ≤ a := by omega
          have hb0 : (0 : Int) ≤ b := by omega
          have haT : (a : Int) < T.length := by omega
          have hta := bls_at T a (by omega)
          generalize wtF n T (E.take i) = w at *
          have hbw : (b : Int) < w.length := by omega
          have hwb := bls_at w b (by omega)
          have hws := bls_set w b
          cases hTa : T.getD a false
          · rw [hTa] at hta hst
            rw [if_neg (by decide)] at hst
            repeat' (first
 | (apply Awp.sreg; (case hn => (simp only [List.length_cons, List.length_nil, Nat.reduceAdd] <;> rfl)))
 | (refine st_nil ?_)
 | (apply st_a; (case hc => rfl); (case he => (simp only [go_sem, *] <;> rfl)); (case hu => (simp only [updL_nil, updL_cons] <;> rfl)); (case hp => first | trivial | omega | (simp; done)))
 | (apply Awp.reg; (case hn => (simp only [List.length_cons, List.length_nil, Nat.reduceAdd] <;> rfl)))
 | (refine Awp.skip ?_; try simp only [go_sem, *])
 | refine Awp.block ?_
 | (apply Awp.cond; (case hc => (simp only [go_sem, *] <;> rfl)); all_goals (intro hg; (try simp only [Bool.not_true, Bool.not_false, reduceCtorEq] at hg)))
 | refine Awp.seq ?_)
            refine ⟨i + 1, by omega, by omega, ?_⟩
            (apply Ghost.mk [] []; (case hdead => rfl); (case hinj => rfl); (case hV => (simp only [go_sem, *]) <;> (repeat' (first | refine And.intro ?_ ?_ | exact View.int (by first | rfl | omega | (simp; done) | (rw [wrap_i64] <;> (try simp only [Int.natCast_add]) <;> omega) | (simp [*]; done)) | exact .own rfl (by decide)))); (case hB => (simp only [go_sem, *]) <;> (repeat' (first | refine And.intro ?_ ?_ | exact ⟨_, rfl, .rowE (by first | rfl | omega | (simp; done) | (rw [wrap_i64] <;> (try simp only [Int.natCast_add]) <;> omega) | (simp [*]; done))⟩))))
          · rw [hTa] at hta hst
            rw [if_pos rfl] at hst
            repeat' (first
 | (apply Awp.sreg; (case hn => (simp only [List.length_cons, List.length_nil, Nat.reduceAdd] <;> rfl)))
 | (refine st_nil ?_)
 | (apply st_a; (case hc => rfl); (case he => (simp only [go_sem, *] <;> rfl)); (case hu => (simp only [updL_nil, updL_cons] <;> rfl)); (case hp => first | trivial | omega))
 | (apply Awp.reg; (case hn => (simp only [List.length_cons, List.length_nil, Nat.reduceAdd] <;> rfl)))
 | (refine Awp.skip ?_; try simp only [go_sem, *])
 | refine Awp.block ?_
 | (apply Awp.cond; (case hc => (simp only [go_sem, *] <;> rfl)); all_goals (intro hg; (try simp only [Bool.not_true, Bool.not_false, reduceCtorEq] at hg)))
 | refine Awp.seq ?_)
            refine ⟨i + 1, by omega, by omega, ?_⟩
            (apply Ghost.mk [] []; (case hdead => rfl); (case hinj => rfl); (case hV => (simp only [go_sem, *]) <;> (repeat' (first | refine And.intro ?_ ?_ | exact View.int (by first | rfl | omega | (simp; done) | (rw [wrap_i64] <;> (try simp only [Int.natCast_add]) <;> omega) | (simp [*]; done)) | exact .own rfl (by decide)))); (case hB => (simp only [go_sem, *]) <;> (repeat' (first | refine And.intro ?_ ?_ | exact ⟨_, rfl, .rowE (by first | rfl | omega | (simp; done) | (rw [wrap_i64] <;> (try simp only [Int.natCast_add]) <;> omega) | (simp [*]; done))⟩))))
        · have hlt' : ¬ (i : Int) < E.length := by omega
          have e1 : E.take i = E := List.take_of_length_le (by omega)
          rw [e1] at hwl ⊢
          have hav : ∀ v, availB n T E v = (!(T.getD v false) && !((wtF n T E).getD v false)) := fun v => rfl
          unfold Hid at hstep
          generalize availB n T E = p at *
          generalize wtF n T E = w at *
          change Hid _ at hstep
          clear hE e1
          unfold do2
          repeat' (first
 | (apply Awp.sreg; (case hn => (simp only [List.length_cons, List.length_nil, Nat.reduceAdd] <;> rfl)))
 | (refine st_nil ?_)
 | (apply st_a; (case hc => rfl); (case he => (simp only [go_sem, *] <;> rfl)); (case hu => (simp only [updL_nil, updL_cons] <;> rfl)); (case hp => first | trivial))
 | (refine Awp.exit ?_; try simp only [go_sem, *])
 | refine Awp.block ?_
 | (apply Awp.cond; (case hc => (simp only [go_sem, *] <;> rfl)); all_goals (intro hg; (try simp only [Bool.not_true, Bool.not_false, reduceCtorEq] at hg)))
 | refine Awp.seq ?_)
          refine Awp.loop (fun m : Nat => m ≤ n) 300 (fun m => do3 n E T D w (dnQ p n m) m) (fun m => m) n (Nat.le_refl _) ?_ ?_
          · have e2 := dnQ_end p n
            unfold do3
            rw [e2]
            clear hav
            (apply Ghost.mk [] []; (case hdead => rfl); (case hinj => rfl); (case hV => (simp only [go_sem, *]) <;> (repeat' (first | refine And.intro ?_ ?_ | exact View.int (by first | rfl | omega | (simp; done) | (rw [wrap_i64] <;> (try simp only [Int.natCast_add]) <;> omega) | (simp [*]; done)) | exact .own rfl (by decide)))); (case hB => (simp only [go_sem, *]) <;> (repeat' (first | refine And.intro ?_ ?_ | exact ⟨_, rfl, .rowE (by first | rfl | omega | (simp; done) | (rw [wrap_i64] <;> (try simp only [Int.natCast_add]) <;> omega) | (simp [*]; done))⟩))))
          · intro m hm
            by_cases h0 : m = 0
            · subst h0
              have h0' : ((0 : Nat) : Int) - 1 = -1 := rfl
              have hrg := dnQ_rng p n 0
              unfold Hid at hstep
              unfold do3
              generalize dnQ p n 0 = X at *
              rcases hrg with ⟨hX, _⟩ | ⟨j, hX, hj, _⟩
              · subst hX
                rw [if_pos (by decide)] at hstep
                rw [hstep]
                clear hstep hav
                repeat' (first
 | (apply Awp.sreg; (case hn => (simp only [List.length_cons, List.length_nil, Nat.reduceAdd] <;> rfl)))
 | (refine st_nil ?_)
 | (apply st_a; (case hc => rfl); (case he => (simp only [go_sem, *] <;> rfl)); (case hu => (simp only [updL_nil, updL_cons] <;> rfl)); (case hp => first | trivial))
 | (refine Awp.ret ?_; try simp only [go_sem, *])
 | (refine Awp.exit ?_; try simp only [go_sem, *])
 | (apply Awp.cond; (case hc => (simp only [go_sem, *] <;> rfl)); all_goals (intro hg; (try simp only [Bool.not_true, Bool.not_false, reduceCtorEq] at hg)))
 | refine Awp.seq ?_)
                all_goals repeat' (first | exact Lower.int (by first | rfl | (simp only [true_and, Bool.true_and, Bool.false_and, Bool.and_true, Bool.and_false, Bool.true_or, Bool.false_or, reduceIte, Bool.false_eq_true, *]; done) | (simp only [true_and, reduceIte, Bool.false_eq_true, *] <;> rfl) | (simp [true_and]; done) | (simp_all [true_and]; done) | omega) | exact Lower.nilE (by first | rfl | (simp only [true_and, Bool.true_and, Bool.false_and, Bool.and_true, Bool.and_false, Bool.true_or, Bool.false_or, reduceIte, Bool.false_eq_true, *]; done) | (simp only [true_and, reduceIte, Bool.false_eq_true, *] <;> rfl) | (simp [true_and]; done) | (simp_all [true_and]; done) | omega) | refine Lower.tupF ?_ | refine All2.cons ?_ ?_ | exact All2.nil)
              · subst hX
                rw [if_neg (by omega), Int.toNat_natCast] at hstep
                have hj' : (j : Int) < T.length := by omega
                have hj0 : ¬ (j : Int) < 0 := by omega
                have hjj : (0 : Int) ≤ j := by omega
                have hbs := bls_set T j
                have hbj := bls_at T j (by omega)
                have hsn := nts_snoc D j
                have hfin : Hid ((D ++ [j]).length ≤ n ∧ (T.set j true).length = n ∧ dordG n E (n - (D ++ [j]).length) (T.set j true) (D ++ [j]) = R) := by
                  refine ⟨by rw [List.length_append, List.length_singleton]; omega, by rw [List.length_set]; exact hT, ?_⟩
                  rw [List.length_append, List.length_singleton, ← hkD]
                  exact hstep.symm
                have hms : n - (D ++ [j]).length < n - D.length := by rw [List.length_append, List.length_singleton]; omega
                clear hstep hav
                repeat' (first
 | (apply Awp.sreg; (case hn => (simp only [List.length_cons, List.length_nil, Nat.reduceAdd] <;> rfl)))
 | (refine st_nil ?_)
 | (apply st_a; (case hc => rfl); (case he => (simp only [go_sem, *] <;> rfl)); (case hu => (simp only [updL_nil, updL_cons] <;> rfl)); (case hp => first | trivial | omega | (simp; done) | (simp; omega)))
 | (apply Awp.reg; (case hn => (simp only [List.length_cons, List.length_nil, Nat.reduceAdd] <;> rfl)))
 | (refine Awp.skip ?_; try simp only [go_sem, *])
 | (refine Awp.exit ?_; try simp only [go_sem, *])
 | (apply Awp.cond; (case hc => (simp only [go_sem, *] <;> rfl)); all_goals (intro hg; (try simp only [Bool.not_true, Bool.not_false, reduceCtorEq] at hg)))
 | refine Awp.seq ?_)
                refine ⟨(T.set j true, D ++ [j]), hfin, hms, ?_⟩
                clear hfin hms
                (apply Ghost.mk [(0, 311)] []; (case hdead => rfl); (case hinj => rfl); (case hV => (simp only [go_sem, *]) <;> (repeat' (first | refine And.intro ?_ ?_ | exact .own rfl (by decide)))); (case hB => (simp only [go_sem, *]) <;> (repeat' (first | refine And.intro ?_ ?_ | exact ⟨_, rfl, .rowE (by first | rfl | omega | (simp; done) | (rw [wrap_i64] <;> (try simp only [Int.natCast_add]) <;> omega) | (simp [*]; done))⟩))))
            · obtain ⟨v, rfl⟩ : ∃ v, m = v + 1 := ⟨m - 1, by omega⟩
              have hv1 : ((v + 1 : Nat) : Int) - 1 = v := by omega
              have hst := dnQ_step p n v (by omega)
              have hpv := hav v
              have hv0 : (0 : Int) ≤ v := by omega
              have hvT : (v : Int) < T.length := by omega
              have hvw : (v : Int) < w.length := by omega
              have htv := bls_at T v (by omega)
              have hwv := bls_at w v (by omega)
              clear hstep hav
              unfold do3
              simp only [hv1]
              generalize dnQ p n (v + 1) = X at *
              have hvw2 : IntKind.i64.wrap ((v : Int) - 1) = (v : Int) - 1 := wrap_i64 (by omega) (by omega)
              cases hTv : T.getD v false
              · cases hWv : w.getD v false
                · have hpv : p v = true := by rw [hpv, hTv, hWv]; rfl
                  rw [hpv, if_pos rfl] at hst
                  rw [hTv] at htv
                  rw [hWv] at hwv
                  clear hpv
                  repeat' (first
 | (apply Awp.sreg; (case hn => (simp only [List.length_cons, List.length_nil, Nat.reduceAdd] <;> rfl)))
 | (refine st_nil ?_)
 | (apply st_a; (case hc => rfl); (case he => (simp only [go_sem, *] <;> rfl)); (case hu => (simp only [updL_nil, updL_cons] <;> rfl)); (case hp => first | trivial | omega))
 | (apply st_m; (case hc => rfl); (case hg => (simp only [go_sem, *] <;> rfl)); (case he => (intro hQz; (try simp only [wantB_t, wantB_f, Bool.and_eq_true, Bool.not_eq_true', Bool.not_true, Bool.not_false, and_true, true_and] at hQz); simp only [go_sem, *] <;> rfl)); (case hp => (intro hQz; (try simp only [wantB_t, wantB_f, Bool.and_eq_true, Bool.not_eq_true', Bool.or_eq_false_iff, decide_eq_true_eq, decide_eq_false_iff_not, beq_iff_eq, beq_eq_false_iff_ne, bne_iff_ne, bne_eq_false_iff_eq, Int.not_lt, Int.not_le, Int.ofNat_lt, Int.ofNat_le] at hQz); first | trivial | omega)))
 | (apply Awp.reg; (case hn => (simp only [List.length_cons, List.length_nil, Nat.reduceAdd] <;> rfl)))
 | (refine Awp.skip ?_; try simp only [go_sem, *])
 | refine Awp.block ?_
 | (apply Awp.cond; (case hc => (simp only [go_sem, *] <;> rfl)); all_goals (intro hg; (try simp only [Bool.not_true, Bool.not_false, reduceCtorEq] at hg)))
 | refine Awp.seq ?_)
                  refine ⟨v, by omega, by omega, ?_⟩
                  (apply Ghost.mk [] []; (case hdead => rfl); (case hinj => rfl); (case hV => (simp only [go_sem, *]) <;> (repeat' (first | refine And.intro ?_ ?_ | exact .own rfl (by decide)))); (case hB => (simp only [go_sem, *]) <;> (repeat' (first | refine And.intro ?_ ?_ | exact ⟨_, rfl, .rowE (by first | rfl | omega | (simp; done) | (rw [wrap_i64] <;> (try simp only [Int.natCast_add]) <;> omega) | (simp [*]; done))⟩))))
                · rw [hTv, hWv] at hpv
                  rw [hpv, if_neg (by decide)] at hst
                  rw [hTv] at htv
                  rw [hWv] at hwv
                  clear hpv
                  repeat' (first
 | (apply Awp.sreg; (case hn => (simp only [List.length_cons, List.length_nil, Nat.reduceAdd] <;> rfl)))
 | (refine st_nil ?_)
 | (apply st_a; (case hc => rfl); (case he => (simp only [go_sem, *] <;> rfl)); (case hu => (simp only [updL_nil, updL_cons] <;> rfl)); (case hp => first | trivial | omega))
 | (apply st_m; (case hc => rfl); (case hg => (simp only [go_sem, *] <;> rfl)); (case he => (intro hQz; (try simp only [wantB_t, wantB_f, Bool.and_eq_true, Bool.not_eq_true', Bool.not_true, Bool.not_false, and_true, true_and] at hQz); simp only [go_sem, *] <;> rfl)); (case hp => (intro hQz; (try simp only [wantB_t, wantB_f, Bool.and_eq_true, Bool.not_eq_true', Bool.or_eq_false_iff, decide_eq_true_eq, decide_eq_false_iff_not, beq_iff_eq, beq_eq_false_iff_ne, bne_iff_ne, bne_eq_false_iff_eq, Int.not_lt, Int.not_le, Int.ofNat_lt, Int.ofNat_le] at hQz); first | trivial | omega)))
 | (apply Awp.reg; (case hn => (simp only [List.length_cons, List.length_nil, Nat.reduceAdd] <;> rfl)))
 | (refine Awp.skip ?_; try simp only [go_sem, *])
 | refine Awp.block ?_
 | (apply Awp.cond; (case hc => (simp only [go_sem, *] <;> rfl)); all_goals (intro hg; (try simp only [Bool.not_true, Bool.not_false, reduceCtorEq] at hg)))
 | refine Awp.seq ?_)
                  refine ⟨v, by omega, by omega, ?_⟩
                  (apply Ghost.mk [] []; (case hdead => rfl); (case hinj => rfl); (case hV => (simp only [go_sem, *]) <;> (repeat' (first | refine And.intro ?_ ?_ | exact .own rfl (by decide)))); (case hB => (simp only [go_sem, *]) <;> (repeat' (first | refine And.intro ?_ ?_ | exact ⟨_, rfl, .rowE (by first | rfl | omega | (simp; done) | (rw [wrap_i64] <;> (try simp only [Int.natCast_add]) <;> omega) | (simp [*]; done))⟩))))
              · rw [hTv] at hpv
                rw [Bool.not_true, Bool.false_and] at hpv
                rw [hpv, if_neg (by decide)] at hst
                rw [hTv] at htv
                clear hpv
                repeat' (first
 | (apply Awp.sreg; (case hn => (simp only [List.length_cons, List.length_nil, Nat.reduceAdd] <;> rfl)))
 | (refine st_nil ?_)
 | (apply st_a; (case hc => rfl); (case he => (simp only [go_sem, *] <;> rfl)); (case hu => (simp only [updL_nil, updL_cons] <;> rfl)); (case hp => first | trivial | omega))
 | (apply st_m; (case hc => rfl); (case hg => (simp only [go_sem, *] <;> rfl)); (case he => (intro hQz; (try simp only [wantB_t, wantB_f, Bool.and_eq_true, Bool.not_eq_true', Bool.not_true, Bool.not_false, and_true, true_and] at hQz); simp only [go_sem, *] <;> rfl)); (case hp => (intro hQz; (try simp only [wantB_t, wantB_f, Bool.and_eq_true, Bool.not_eq_true', Bool.or_eq_false_iff, decide_eq_true_eq, decide_eq_false_iff_not, beq_iff_eq, beq_eq_false_iff_ne, bne_iff_ne, bne_eq_false_iff_eq, Int.not_lt, Int.not_le, Int.ofNat_lt, Int.ofNat_le] at hQz); first | trivial)))
 | (apply Awp.reg; (case hn => (simp only [List.length_cons, List.length_nil, Nat.reduceAdd] <;> rfl)))
 | (refine Awp.skip ?_; try simp only [go_sem, *])
 | refine Awp.block ?_
 | (apply Awp.cond; (case hc => (simp only [go_sem, *] <;> rfl)); all_goals (intro hg; (try simp only [Bool.not_true, Bool.not_false, reduceCtorEq] at hg)))
 | refine Awp.seq ?_)
                refine ⟨v, by omega, by omega, ?_⟩
                (apply Ghost.mk [] []; (case hdead => rfl); (case hinj => rfl); (case hV => (simp only [go_sem, *]) <;> (repeat' (first | refine And.intro ?_ ?_ | exact .own rfl (by decide)))); (case hB => (simp only [go_sem, *]) <;> (repeat' (first | refine And.intro ?_ ?_ | exact ⟨_, rfl, .rowE (by first | rfl | omega | (simp; done) | (rw [wrap_i64] <;> (try simp only [Int.natCast_add]) <;> omega) | (simp [*]; done))⟩))))
    · have hlt' : ¬ (D.length : Int) < n := by omega
      have h0 : n - D.length = 0 := by omega
      rw [h0] at hg
      have hR2 : R = (D, 0) := hg.symm
      rw [hR2]
      clear hg hR2 hE h0
      unfold do1
      repeat' (first
 | (apply Awp.sreg; (case hn => (simp only [List.length_cons, List.length_nil, Nat.reduceAdd] <;> rfl)))
 | (refine st_nil ?_)
 | (apply st_a; (case hc => rfl); (case he => (simp only [go_sem, *] <;> rfl)); (case hu => (simp only [updL_nil, updL_cons] <;> rfl)); (case hp => first | trivial))
 | (refine Awp.ret ?_; try simp only [go_sem, *])
 | (refine Awp.exit ?_; try simp only [go_sem, *])
 | (apply Awp.cond; (case hc => (simp only [go_sem, *] <;> rfl)); all_goals (intro hg; (try simp only [Bool.not_true, Bool.not_false, reduceCtorEq] at hg)))
 | refine Awp.seq ?_)
      all_goals repeat' (first | exact Lower.int (by first | rfl | (simp only [true_and, Bool.true_and, Bool.false_and, Bool.and_true, Bool.and_false, Bool.true_or, Bool.false_or, reduceIte, Bool.false_eq_true, *]; done) | (simp only [true_and, reduceIte, Bool.false_eq_true, *] <;> rfl) | (simp [true_and]; done) | (simp_all [true_and]; done) | omega) | exact Lower.ownE (by simp only [go_sem, *] <;> rfl) (by first | rfl | (simp only [true_and, Bool.true_and, Bool.false_and, Bool.and_true, Bool.and_false, Bool.true_or, Bool.false_or, reduceIte, Bool.false_eq_true, *]; done) | (simp only [true_and, reduceIte, Bool.false_eq_true, *] <;> rfl) | (simp [true_and]; done) | (simp_all [true_and]; done) | omega) | refine Lower.tupF ?_ | refine All2.cons ?_ ?_ | exact All2.nil)
theorem intsJ_at (l : List Int) (i : Nat) (h : i < l.length) : (ints l).getD i [] = [.v (.int .i64 (l.getD i 0))] := by
  simp [ints, List.getD_eq_getElem?_getD, h]
theorem intsJ_set (l : List Int) (i : Nat) (x : Int) : (ints l).set i [.v (.int .i64 x)] = ints (l.set i x) := by simp [ints, List.map_set]
theorem intsJ_rep (n : Nat) : ints (List.replicate n 0) = List.replicate n [.v (.int .i64 0)] := by simp [ints]
def HrOk (H : List Int) : Prop := ∀ i, i < H.length → 0 ≤ H.getD i 0 ∧ H.getD i 0 ≤ 1048576
theorem dhours_ok (H : List Int) (E : List Ed) (hn : H.length ≤ 256) (hl : E.length < 1000000) (hE : EdOk H.length E) (hH : HrOk H) : Pure Tryz.prog 69 [.sl (ints H), .sl (eds E), .v (.int .i64 0)] (.tup [.sl (nts (dordE H.length E).1), .v (.int .i64 (dordE H.length E).2)]) := by
  have c0 := dord_ok H.length E hn hl hE
  have hn2 : decide ((256 : Int) < H.length) = false := decide_eq_false (by omega)
  clear hE
  generalize dordE H.length E = R at *
  obtain ⟨D, e⟩ := R
  refine fn_pure Tryz.F69 (Nat.le_of_ble_eq_true rfl) ?_; unfold Tryz.ac69 AR AM AO
  repeat' (first
 | (apply Awp.sreg; (case hn => (simp only [List.length_cons, List.length_nil, Nat.reduceAdd] <;> rfl)))
 | (refine st_nil ?_)
 | (apply st_a; (case hc => rfl); (case he => (simp only [go_sem, *] <;> rfl)); (case hu => (simp only [updL_nil, updL_cons] <;> rfl)); (case hp => first | trivial))
 | (refine Awp.skip ?_; try simp only [go_sem, *])
 | refine Awp.block ?_
 | (apply Awp.cond; (case hc => (simp only [go_sem, *] <;> rfl)); all_goals (intro hg; (try simp only [Bool.not_true, Bool.not_false, reduceCtorEq] at hg)))
 | refine Awp.seq ?_)
  refine Awp.loop (fun i : Nat => i ≤ H.length) 100 (fun i => mkS [(0, .sl (ints H)), (1, .sl (eds E)), (2, .v (.int .i64 0)), (8, .v (.int .i64 i))] []) (fun i => H.length - i) 0 (Nat.zero_le _) ?_ ?_
  · clear hH
    (apply Ghost.mk [] []; (case hdead => rfl); (case hinj => rfl); (case hV => (simp only [go_sem, *]) <;> (repeat' (first | exact View.int (by first | rfl | omega | (simp; done) | (rw [wrap_i64] <;> (try simp only [Int.natCast_add]) <;> omega) | (simp [*]; done))))); (case hB => (simp only [go_sem, *]) <;> (repeat' (first | skip; done))))
  · intro i hi
    by_cases hlt : i < H.length
    · have hlt' : (i : Int) < H.length := by omega
      have hat := intsJ_at H i hlt
      obtain ⟨h1, h2⟩ := hH i hlt
      have d1 : decide (H.getD i 0 < 0) = false := decide_eq_false (by omega)
      have d2 : decide ((1048576 : Int) < H.getD i 0) = false := decide_eq_false (by omega)
      clear hH h1 h2
      repeat' (first
 | (apply Awp.sreg; (case hn => (simp only [List.length_cons, List.length_nil, Nat.reduceAdd] <;> rfl)))
 | (refine st_nil ?_)
 | (apply st_a; (case hc => rfl); (case he => (simp only [go_sem, *] <;> rfl)); (case hu => (simp only [updL_nil, updL_cons] <;> rfl)); (case hp => first | trivial | omega))
 | (apply st_m; (case hc => rfl); (case hg => (simp only [go_sem, *] <;> rfl)); (case he => (intro hQz; (try simp only [wantB_t, wantB_f, Bool.and_eq_true, Bool.not_eq_true', Bool.not_true, Bool.not_false, and_true, true_and] at hQz); simp only [go_sem, *] <;> rfl)); (case hp => (intro hQz; (try simp only [wantB_t, wantB_f, Bool.and_eq_true, Bool.not_eq_true', Bool.or_eq_false_iff, decide_eq_true_eq, decide_eq_false_iff_not, beq_iff_eq, beq_eq_false_iff_ne, bne_iff_ne, bne_eq_false_iff_eq, Int.not_lt, Int.not_le, Int.ofNat_lt, Int.ofNat_le] at hQz); first | trivial | omega)))
 | (apply Awp.reg; (case hn => (simp only [List.length_cons, List.length_nil, Nat.reduceAdd] <;> rfl)))
 | (refine Awp.skip ?_; try simp only [go_sem, *])
 | refine Awp.block ?_
 | (apply Awp.cond; (case hc => (simp only [go_sem, *] <;> rfl)); all_goals (intro hg; (try simp only [Bool.not_true, Bool.not_false, reduceCtorEq] at hg)))
 | refine Awp.seq ?_)
      refine ⟨i + 1, by omega, by omega, ?_⟩
      (apply Ghost.mk [] []; (case hdead => rfl); (case hinj => rfl); (case hV => (simp only [go_sem, *]) <;> (repeat' (first | exact View.int (by first | rfl | omega | (simp; done) | (rw [wrap_i64] <;> (try simp only [Int.natCast_add]) <;> omega) | (simp [*]; done))))); (case hB => (simp only [go_sem, *]) <;> (repeat' (first | skip; done))))
    · have hlt' : ¬ (i : Int) < H.length := by omega
      clear hH
      repeat' (first
 | (apply Awp.sreg; (case hn => (simp only [List.length_cons, List.length_nil, Nat.reduceAdd] <;> rfl)))
 | (refine st_nil ?_)
 | (apply st_a; (case hc => rfl); (case he => (simp only [go_sem, *] <;> rfl)); (case hu => (simp only [updL_nil, updL_cons] <;> rfl)); (case hp => first | trivial))
 | (apply st_m; (case hc => rfl); (case hg => (simp only [go_sem, *] <;> rfl)); (case he => (intro hQz; (try simp only [wantB_t, wantB_f, Bool.and_eq_true, Bool.not_eq_true', Bool.not_true, Bool.not_false, and_true, true_and] at hQz); simp only [go_sem, *] <;> rfl)); (case hp => (intro hQz; (try simp only [wantB_t, wantB_f, Bool.and_eq_true, Bool.not_eq_true', Bool.or_eq_false_iff, decide_eq_true_eq, decide_eq_false_iff_not, beq_iff_eq, beq_eq_false_iff_ne, bne_iff_ne, bne_eq_false_iff_eq, Int.not_lt, Int.not_le, Int.ofNat_lt, Int.ofNat_le] at hQz); first | trivial)))
 | (apply st_c; (case hc => (simp only [go_sem, *] <;> rfl)); (case hl => (simp only [go_sem, *] <;> rfl)); (case hn => (simp only [go_sem, *] <;> rfl)); (case hp => first | exact c0 | (have hXz := c0; simp only [go_sem, *] at hXz; exact hXz)))
 | (refine Awp.ret ?_; try simp only [go_sem, *])
 | (refine Awp.skip ?_; try simp only [go_sem, *])
 | (refine Awp.exit ?_; try simp only [go_sem, *])
 | (apply Awp.cond; (case hc => (simp only [go_sem, *] <;> rfl)); all_goals (intro hg; (try simp only [Bool.not_true, Bool.not_false, reduceCtorEq] at hg)))
 | refine Awp.seq ?_)
      all_goals repeat' (first | exact Lower.int (by first | rfl | (simp only [true_and, Bool.true_and, Bool.false_and, Bool.and_true, Bool.and_false, Bool.true_or, Bool.false_or, reduceIte, Bool.false_eq_true, *]; done) | (simp only [true_and, reduceIte, Bool.false_eq_true, *] <;> rfl) | (simp [true_and]; done) | (simp_all [true_and]; done) | omega) | exact Lower.slE' (by first | rfl | (simp only [true_and, Bool.true_and, Bool.false_and, Bool.and_true, Bool.and_false, Bool.true_or, Bool.false_or, reduceIte, Bool.false_eq_true, *]; done) | (simp only [true_and, reduceIte, Bool.false_eq_true, *] <;> rfl) | (simp [true_and]; done) | (simp_all [true_and]; done) | omega) | refine Lower.tupF ?_ | refine All2.cons ?_ ?_ | exact All2.nil)
def earS (H : List Int) (v : Nat) (st : List Int) (e : Ed) : List Int := if ((e.2 : Int) == v) = true then st.set v (imax (st.getD v 0) (IntKind.i64.wrap (st.getD e.1 0 + H.getD e.1 0))) else st
def earV (H : List Int) (E : List Ed) (st : List Int) (v : Nat) : List Int := E.foldl (earS H v) st
def earE (H : List Int) (E : List Ed) (D : List Nat) : List Int := D.foldl (earV H E) (List.replicate H.length 0)
theorem earS_len (H : List Int) (v : Nat) (st : List Int) (e : Ed) : (earS H v st e).length = st.length := by
  unfold earS; split <;> simp
theorem earV_len (H : List Int) (v : Nat) : ∀ (E : List Ed) (st : List Int), (earV H E st v).length = st.length
  | [], _ => rfl
  | e :: E, st => by
    have := earV_len H v E (earS H v st e)
    rw [earS_len] at this
    exact this
theorem earE_len' (H : List Int) (E : List Ed) : ∀ (D : List Nat) (st : List Int), (D.foldl (earV H E) st).length = st.length
  | [], _ => rfl
  | v :: D, st => by rw [List.foldl_cons, earE_len' H E D, earV_len]
theorem earE_len (H : List Int) (E : List Ed) (D : List Nat) : (earE H E D).length = H.length := by
  unfold earE; rw [earE_len', List.length_replicate]
theorem foldl_take1 {α β : Type} (f : β → α → β) (b : β) (l : List α) (i : Nat) (d : α) (h : i < l.length) : (l.take (i + 1)).foldl f b = f ((l.take i).foldl f b) (l.getD i d) := by
  rw [List.take_add_one, List.getElem?_eq_getElem h, List.foldl_append]
  simp [List.getD_eq_getElem?_getD, h]
def ea1 (H : List Int) (E : List Ed) (D : List Nat) (st : List Int) (i : Nat) : AState := mkS [(0, .sl (ints H)), (1, .sl (eds E)), (6, .sl (nts D)), (8, .own 0), (9, .v (.int .i64 i))] [(0, .row (ints st) 1 3)]
def ea2 (H : List Int) (E : List Ed) (D : List Nat) (st : List Int) (i k : Nat) : AState := mkS [(0, .sl (ints H)), (1, .sl (eds E)), (6, .sl (nts D)), (8, .own 0), (9, .v (.int .i64 i)), (10, .v (.int .i64 k))] [(0, .row (ints st) 1 3)]
theorem dear_ok (H : List Int) (E : List Ed) (D : List Nat) (hn : H.length ≤ 256) (hl : E.length < 1000000) (hE : EdOk H.length E) (hH : HrOk H) (hD : dordE H.length E = (D, 0)) (hDl : D.length < 1000000) (hDm : ∀ i, i < D.length → D.getD i 0 < H.length) :
    Pure Tryz.prog 47 [.sl (ints H), .sl (eds E)] (.tup [.sl (ints (earE H E D)), .v (.int .i64 0)]) := by
  have c0 := dhours_ok H E hn hl hE hH
  rw [hD] at c0
  have hrep := intsJ_rep H.length
  clear hD hH
  refine fn_pure Tryz.F47 (Nat.le_of_ble_eq_true rfl) ?_; unfold Tryz.ac47 AR AM AO
  repeat' (first
 | (apply Awp.sreg; (case hn => (simp only [List.length_cons, List.length_nil, Nat.reduceAdd] <;> rfl)))
 | (refine st_nil ?_)
 | (apply st_a; (case hc => rfl); (case he => (simp only [go_sem, *] <;> rfl)); (case hu => (simp only [updL_nil, updL_cons] <;> rfl)); (case hp => first | trivial | omega))
 | (apply st_c; (case hc => (simp only [go_sem, *] <;> rfl)); (case hl => (simp only [go_sem, *] <;> rfl)); (case hn => (simp only [go_sem, *] <;> rfl)); (case hp => first | exact c0 | (have hXz := c0; simp only [go_sem, *] at hXz; exact hXz)))
 | (refine Awp.skip ?_; try simp only [go_sem, *])
 | refine Awp.block ?_
 | (apply Awp.cond; (case hc => (simp only [go_sem, *] <;> rfl)); all_goals (intro hg; (try simp only [Bool.not_true, Bool.not_false, reduceCtorEq] at hg)))
 | refine Awp.seq ?_)
  refine Awp.loop (fun i : Nat => i ≤ D.length) 100 (fun i => ea1 H E D ((D.take i).foldl (earV H E) (List.replicate H.length 0)) i) (fun i => D.length - i) 0 (Nat.zero_le _) ?_ ?_
  · have e1 : (D.take 0).foldl (earV H E) (List.replicate H.length 0) = List.replicate H.length 0 := rfl
    unfold ea1
    rw [e1, hrep]
    clear hE hDm
    (apply Ghost.mk [(0, 14)] []; (case hdead => rfl); (case hinj => rfl); (case hV => (simp only [go_sem, *]) <;> (repeat' (first | refine And.intro ?_ ?_ | exact View.int (by first | rfl | omega | (simp; done) | (rw [wrap_i64] <;> (try simp only [Int.natCast_add]) <;> omega) | (simp [*]; done)) | exact .own rfl (by decide)))); (case hB => (simp only [go_sem, *]) <;> (repeat' (first | exact ⟨_, rfl, .rowE (by first | rfl | omega | (simp; done) | (rw [wrap_i64] <;> (try simp only [Int.natCast_add]) <;> omega) | (simp [*]; done))⟩))))
  · intro i hi
    clear hrep c0
    have hsl : ((D.take i).foldl (earV H E) (List.replicate H.length 0)).length = H.length := by rw [earE_len', List.length_replicate]
    by_cases hlt : i < D.length
    · have hlt' : (i : Int) < D.length := by omega
      have hatD := nts_at D i hlt
      have hst := foldl_take1 (earV H E) (List.replicate H.length 0) D i 0 hlt
      have hv := hDm i hlt
      clear hDm
      unfold ea1
      generalize (D.take i).foldl (earV H E) (List.replicate H.length 0) = st at *
      generalize D.getD i 0 = v at *
      change Hid _ at hst
      repeat' (first
 | (apply Awp.sreg; (case hn => (simp only [List.length_cons, List.length_nil, Nat.reduceAdd] <;> rfl)))
 | (refine st_nil ?_)
 | (apply st_a; (case hc => rfl); (case he => (simp only [go_sem, *] <;> rfl)); (case hu => (simp only [updL_nil, updL_cons] <;> rfl)); (case hp => first | trivial))
 | (refine Awp.skip ?_; try simp only [go_sem, *])
 | refine Awp.block ?_
 | (apply Awp.cond; (case hc => (simp only [go_sem, *] <;> rfl)); all_goals (intro hg; (try simp only [Bool.not_true, Bool.not_false, reduceCtorEq] at hg)))
 | refine Awp.seq ?_)
      refine Awp.loop (fun k : Nat => k ≤ E.length) 200 (fun k => ea2 H E D ((E.take k).foldl (earS H v) st) i k) (fun k => E.length - k) 0 (Nat.zero_le _) ?_ ?_
      · have e1 : (E.take 0).foldl (earS H v) st = st := rfl
        unfold ea2
        rw [e1]
        clear hE
        (apply Ghost.mk [] []; (case hdead => rfl); (case hinj => rfl); (case hV => (simp only [go_sem, *]) <;> (repeat' (first | refine And.intro ?_ ?_ | exact View.int (by first | rfl | omega | (simp; done) | (rw [wrap_i64] <;> (try simp only [Int.natCast_add]) <;> omega) | (simp [*]; done)) | exact .own rfl (by decide)))); (case hB => (simp only [go_sem, *]) <;> (repeat' (first | exact ⟨_, rfl, .rowE (by first | rfl | omega | (simp; done) | (rw [wrap_i64] <;> (try simp only [Int.natCast_add]) <;> omega) | (simp [*]; done))⟩))))
      · intro k hk
        have hsl2 : ((E.take k).foldl (earS H v) st).length = H.length := by
          have := earV_len H v (E.take k) st
          rw [hsl] at this
          exact this
        by_cases hkt : k < E.length
        · have hkt' : (k : Int) < E.length := by omega
          have hat := eds_at E k hkt
          have hs2 := foldl_take1 (earS H v) st E k (0, 0) hkt
          obtain ⟨h1, h2, h3⟩ := hE k hkt
          clear hE hst hsl
          unfold ea2
          generalize (E.take k).foldl (earS H v) st = s at *
          generalize E.getD k (0, 0) = e at *
          obtain ⟨a, b⟩ := e
          simp only at h1 h2 h3 hat hs2
          have ha0 : (0 : Int) ≤ a := by omega
          have hv0 : (0 : Int) ≤ v := by omega
          have haH : (a : Int) < H.length := by omega
          have has : (a : Int) < s.length := by omega
          have hvs : (v : Int) < s.length := by omega
          have hHa := intsJ_at H a (by omega)
          have hsa := intsJ_at s a (by omega)
          have hsv := intsJ_at s v (by omega)
          have hset := intsJ_set s v (imax (s.getD v 0) (IntKind.i64.wrap (s.getD a 0 + H.getD a 0)))
          have hes : earS H v s (a, b) = if ((b : Int) == v) = true then s.set v (imax (s.getD v 0) (IntKind.i64.wrap (s.getD a 0 + H.getD a 0))) else s := rfl
          rw [hes] at hs2
          clear hes
          unfold imax at hset hs2
          cases hbv : ((b : Int) == v)
          · rw [hbv, if_neg (by decide)] at hs2
            clear hset
            repeat' (first
 | (apply Awp.sreg; (case hn => (simp only [List.length_cons, List.length_nil, Nat.reduceAdd] <;> rfl)))
 | (apply Awp.sdraw; (case hn => (simp only [List.length_cons, List.length_nil, Nat.reduceAdd] <;> rfl)))
 | (refine st_nil ?_)
 | (apply st_a; (case hc => rfl); (case he => (simp only [go_sem, *] <;> rfl)); (case hu => (simp only [updL_nil, updL_cons] <;> rfl)); (case hp => first | trivial))
 | (apply Awp.reg; (case hn => (simp only [List.length_cons, List.length_nil, Nat.reduceAdd] <;> rfl)))
 | (refine Awp.skip ?_; try simp only [go_sem, *])
 | refine Awp.block ?_
 | (apply Awp.cond; (case hc => (simp only [go_sem, *] <;> rfl)); all_goals (intro hg; (try simp only [Bool.not_true, Bool.not_false, reduceCtorEq] at hg)))
 | refine Awp.seq ?_
 | (apply sl_a; (case hc => rfl); (case he => (simp only [go_sem, *] <;> rfl)); (case hu => (simp only [updL_nil, updL_cons] <;> rfl)); (case hl => (simp only [List.map_cons, List.map_nil] <;> rfl)); (case hp => first | trivial | omega))
 | (refine sl_nil (And.intro (by first | exact drawOk_of (by decide +kernel) | (simp only [List.map_cons, List.map_nil]; exact drawOk_of (by decide +kernel)) | decide) ?_)))
            refine ⟨k + 1, by omega, by omega, ?_⟩
            (apply Ghost.mk [] []; (case hdead => rfl); (case hinj => rfl); (case hV => (simp only [go_sem, *]) <;> (repeat' (first | refine And.intro ?_ ?_ | exact View.int (by first | rfl | omega | (simp; done) | (rw [wrap_i64] <;> (try simp only [Int.natCast_add]) <;> omega) | (simp [*]; done)) | exact .own rfl (by decide)))); (case hB => (simp only [go_sem, *]) <;> (repeat' (first | exact ⟨_, rfl, .rowE (by first | rfl | omega | (simp; done) | (rw [wrap_i64] <;> (try simp only [Int.natCast_add]) <;> omega) | (simp [*]; done))⟩))))
          · rw [hbv, if_pos rfl] at hs2
            repeat' (first
 | (apply Awp.sreg; (case hn => (simp only [List.length_cons, List.length_nil, Nat.reduceAdd] <;> rfl)))
 | (apply Awp.sdraw; (case hn => (simp only [List.length_cons, List.length_nil, Nat.reduceAdd] <;> rfl)))
 | (refine st_nil ?_)
 | (apply st_a; (case hc => rfl); (case he => (simp only [go_sem, *] <;> rfl)); (case hu => (simp only [updL_nil, updL_cons] <;> rfl)); (case hp => first | trivial | omega))
 | (apply Awp.reg; (case hn => (simp only [List.length_cons, List.length_nil, Nat.reduceAdd] <;> rfl)))
 | (refine Awp.skip ?_; try simp only [go_sem, *])
 | refine Awp.block ?_
 | (apply Awp.cond; (case hc => (simp only [go_sem, *] <;> rfl)); all_goals (intro hg; (try simp only [Bool.not_true, Bool.not_false, reduceCtorEq] at hg)))
 | refine Awp.seq ?_
 | (refine Awp.draw ?_)
 | (apply sl_a; (case hc => rfl); (case he => (simp only [go_sem, *] <;> rfl)); (case hu => (simp only [updL_nil, updL_cons] <;> rfl)); (case hl => (simp only [List.map_cons, List.map_nil] <;> rfl)); (case hp => first | trivial | omega | (simp; done)))
 | (refine sl_nil (And.intro (by first | exact drawOk_of (by decide +kernel) | (simp only [List.map_cons, List.map_nil]; exact drawOk_of (by decide +kernel)) | decide) ?_)))
            refine ⟨k + 1, by omega, by omega, ?_⟩
            (apply Ghost.mk [] []; (case hdead => rfl); (case hinj => rfl); (case hV => (simp only [go_sem, *]) <;> (repeat' (first | refine And.intro ?_ ?_ | exact View.int (by first | rfl | omega | (simp; done) | (rw [wrap_i64] <;> (try simp only [Int.natCast_add]) <;> omega) | (simp [*]; done)) | exact .own rfl (by decide)))); (case hB => (simp only [go_sem, *]) <;> (repeat' (first | exact ⟨_, rfl, .rowE (by first | rfl | omega | (simp; done) | (rw [wrap_i64] <;> (try simp only [Int.natCast_add]) <;> omega) | (simp [*]; done))⟩))))
        · have hkt' : ¬ (k : Int) < E.length := by omega
          have e1 : E.take k = E := List.take_of_length_le (by omega)
          have hst2 : (D.take (i + 1)).foldl (earV H E) (List.replicate H.length 0) = E.foldl (earS H v) st := hst
          rw [e1]
          clear hE hst e1 hsl hsl2
          unfold ea2
          repeat' (first
 | (apply Awp.sreg; (case hn => (simp only [List.length_cons, List.length_nil, Nat.reduceAdd] <;> rfl)))
 | (refine st_nil ?_)
 | (apply st_a; (case hc => rfl); (case he => (simp only [go_sem, *] <;> rfl)); (case hu => (simp only [updL_nil, updL_cons] <;> rfl)); (case hp => first | trivial))
 | (apply Awp.reg; (case hn => (simp only [List.length_cons, List.length_nil, Nat.reduceAdd] <;> rfl)))
 | (refine Awp.exit ?_; try simp only [go_sem, *])
 | (apply Awp.cond; (case hc => (simp only [go_sem, *] <;> rfl)); all_goals (intro hg; (try simp only [Bool.not_true, Bool.not_false, reduceCtorEq] at hg)))
 | refine Awp.seq ?_)
          refine ⟨i + 1, by omega, by omega, ?_⟩
          (apply Ghost.mk [] []; (case hdead => rfl); (case hinj => rfl); (case hV => (simp only [go_sem, *]) <;> (repeat' (first | refine And.intro ?_ ?_ | exact View.int (by first | rfl | omega | (simp; done) | (rw [wrap_i64] <;> (try simp only [Int.natCast_add]) <;> omega) | (simp [*]; done)) | exact .own rfl (by decide)))); (case hB => (simp only [go_sem, *]) <;> (repeat' (first | exact ⟨_, rfl, .rowE (by first | rfl | omega | (simp; done) | (rw [wrap_i64] <;> (try simp only [Int.natCast_add]) <;> omega) | (simp [*]; done))⟩))))
    · have hlt' : ¬ (i : Int) < D.length := by omega
      have e1 : D.take i = D := List.take_of_length_le (by omega)
      have hfin : earE H E D = D.foldl (earV H E) (List.replicate H.length 0) := rfl
      rw [e1, hfin]
      clear hE hDm e1 hsl hfin
      unfold ea1
      repeat' (first
 | (apply Awp.sreg; (case hn => (simp only [List.length_cons, List.length_nil, Nat.reduceAdd] <;> rfl)))
 | (refine st_nil ?_)
 | (apply st_a; (case hc => rfl); (case he => (simp only [go_sem, *] <;> rfl)); (case hu => (simp only [updL_nil, updL_cons] <;> rfl)); (case hp => first | trivial))
 | (refine Awp.ret ?_; try simp only [go_sem, *])
 | (refine Awp.exit ?_; try simp only [go_sem, *])
 | (apply Awp.cond; (case hc => (simp only [go_sem, *] <;> rfl)); all_goals (intro hg; (try simp only [Bool.not_true, Bool.not_false, reduceCtorEq] at hg)))
 | refine Awp.seq ?_)
      all_goals repeat' (first | exact Lower.int (by first | rfl | (simp only [true_and, Bool.true_and, Bool.false_and, Bool.and_true, Bool.and_false, Bool.true_or, Bool.false_or, reduceIte, Bool.false_eq_true, *]; done) | (simp only [true_and, reduceIte, Bool.false_eq_true, *] <;> rfl) | (simp [true_and]; done) | (simp_all [true_and]; done) | omega) | exact Lower.ownE (by simp only [go_sem, *] <;> rfl) (by first | rfl | (simp only [true_and, Bool.true_and, Bool.false_and, Bool.and_true, Bool.and_false, Bool.true_or, Bool.false_or, reduceIte, Bool.false_eq_true, *]; done) | (simp only [true_and, reduceIte, Bool.false_eq_true, *] <;> rfl) | (simp [true_and]; done) | (simp_all [true_and]; done) | omega) | refine Lower.tupF ?_ | refine All2.cons ?_ ?_ | exact All2.nil)
def lenS (H st : List Int) (n : Int) (i : Nat) : Int := imax n (IntKind.i64.wrap (st.getD i 0 + H.getD i 0))
def lenF (H st : List Int) (m : Nat) : Int := (List.range m).foldl (lenS H st) 0
theorem lenF_step (H st : List Int) (m : Nat) : lenF H st (m + 1) = imax (lenF H st m) (IntKind.i64.wrap (st.getD m 0 + H.getD m 0)) := by
  unfold lenF
  rw [List.range_succ, List.foldl_append]; rfl
theorem dlen_ok (H : List Int) (E : List Ed) (D : List Nat) (hn : H.length ≤ 256) (hl : E.length < 1000000) (hE : EdOk H.length E) (hH : HrOk H) (hD : dordE H.length E = (D, 0)) (hDl : D.length < 1000000) (hDm : ∀ i, i < D.length → D.getD i 0 < H.length) :
    Pure Tryz.prog 28 [.sl (ints H), .sl (eds E)] (.tup [.v (.int .i64 (lenF H (earE H E D) H.length)), .v (.int .i64 0)]) := by
  have c0 := dear_ok H E D hn hl hE hH hD hDl hDm
  have hsl := earE_len H E D
  generalize earE H E D = st at *
  clear hD hH hE hDm
  refine fn_pure Tryz.F28 (Nat.le_of_ble_eq_true rfl) ?_; unfold Tryz.ac28 AR AM AO
  repeat' (first
 | (apply Awp.sreg; (case hn => (simp only [List.length_cons, List.length_nil, Nat.reduceAdd] <;> rfl)))
 | (refine st_nil ?_)
 | (apply st_a; (case hc => rfl); (case he => (simp only [go_sem, *] <;> rfl)); (case hu => (simp only [updL_nil, updL_cons] <;> rfl)); (case hp => first | trivial))
 | (apply st_c; (case hc => (simp only [go_sem, *] <;> rfl)); (case hl => (simp only [go_sem, *] <;> rfl)); (case hn => (simp only [go_sem, *] <;> rfl)); (case hp => first | exact c0 | (have hXz := c0; simp only [go_sem, *] at hXz; exact hXz)))
 | refine Awp.block ?_
 | refine Awp.seq ?_)
  refine Awp.loop (fun i : Nat => i ≤ H.length) 100 (fun i => mkS [(0, .sl (ints H)), (6, .sl (ints st)), (7, .v (.int .i64 0)), (8, .v (.int .i64 (lenF H st i))), (9, .v (.int .i64 i))] []) (fun i => H.length - i) 0 (Nat.zero_le _) ?_ ?_
  · have e1 : lenF H st 0 = 0 := rfl
    rw [e1]
    (apply Ghost.mk [] []; (case hdead => rfl); (case hinj => rfl); (case hV => (simp only [go_sem, *]) <;> (repeat' (first | exact View.int (by first | rfl | omega | (simp; done) | (rw [wrap_i64] <;> (try simp only [Int.natCast_add]) <;> omega) | (simp [*]; done))))); (case hB => (simp only [go_sem, *]) <;> (repeat' (first | skip; done))))
  · intro i hi
    by_cases hlt : i < H.length
    · have hlt' : (i : Int) < H.length := by omega
      have hls' : (i : Int) < st.length := by omega
      have hat := intsJ_at H i hlt
      have hat2 := intsJ_at st i (by omega)
      have hst := lenF_step H st i
      unfold imax at hst
      clear c0
      repeat' (first
 | (apply Awp.sreg; (case hn => (simp only [List.length_cons, List.length_nil, Nat.reduceAdd] <;> rfl)))
 | (refine st_nil ?_)
 | (apply st_a; (case hc => rfl); (case he => (simp only [go_sem, *] <;> rfl)); (case hu => (simp only [updL_nil, updL_cons] <;> rfl)); (case hp => first | trivial))
 | (apply Awp.reg; (case hn => (simp only [List.length_cons, List.length_nil, Nat.reduceAdd] <;> rfl)))
 | (refine Awp.skip ?_; try simp only [go_sem, *])
 | refine Awp.block ?_
 | (apply Awp.cond; (case hc => (simp only [go_sem, *] <;> rfl)); all_goals (intro hg; (try simp only [Bool.not_true, Bool.not_false, reduceCtorEq] at hg)))
 | refine Awp.seq ?_
 | (refine Awp.draw ?_)
 | (apply sl_a; (case hc => rfl); (case he => (simp only [go_sem, *] <;> rfl)); (case hu => (simp only [updL_nil, updL_cons] <;> rfl)); (case hl => (simp only [List.map_cons, List.map_nil] <;> rfl)); (case hp => first | trivial | omega))
 | (refine sl_nil (And.intro (by first | exact drawOk_of (by decide +kernel) | (simp only [List.map_cons, List.map_nil]; exact drawOk_of (by decide +kernel)) | decide) ?_)))
      refine ⟨i + 1, by omega, by omega, ?_⟩
      (apply Ghost.mk [] []; (case hdead => rfl); (case hinj => rfl); (case hV => (simp only [go_sem, *]) <;> (repeat' (first | exact View.int (by first | rfl | omega | (simp; done) | (rw [wrap_i64] <;> (try simp only [Int.natCast_add]) <;> omega) | (simp [*]; done))))); (case hB => (simp only [go_sem, *]) <;> (repeat' (first | skip; done))))
    · have hlt' : ¬ (i : Int) < st.length := by omega
      obtain rfl : i = H.length := by omega
      have hlt2 : ¬ (H.length : Int) < H.length := by omega
      clear c0
      repeat' (first
 | (apply Awp.sreg; (case hn => (simp only [List.length_cons, List.length_nil, Nat.reduceAdd] <;> rfl)))
 | (refine st_nil ?_)
 | (apply st_a; (case hc => rfl); (case he => (simp only [go_sem, *] <;> rfl)); (case hu => (simp only [updL_nil, updL_cons] <;> rfl)); (case hp => first | trivial))
 | (refine Awp.ret ?_; try simp only [go_sem, *])
 | (refine Awp.exit ?_; try simp only [go_sem, *])
 | (apply Awp.cond; (case hc => (simp only [go_sem, *] <;> rfl)); all_goals (intro hg; (try simp only [Bool.not_true, Bool.not_false, reduceCtorEq] at hg)))
 | refine Awp.seq ?_)
      all_goals repeat' (first | exact Lower.int (by first | rfl | (simp only [true_and, Bool.true_and, Bool.false_and, Bool.and_true, Bool.and_false, Bool.true_or, Bool.false_or, reduceIte, Bool.false_eq_true, *]; done) | (simp only [true_and, reduceIte, Bool.false_eq_true, *] <;> rfl) | (simp [true_and]; done) | (simp_all [true_and]; done) | omega) | refine Lower.tupF ?_ | refine All2.cons ?_ ?_ | exact All2.nil)
end Go.Proofs
namespace Go.Proofs
open Go Go.Ab
set_option maxHeartbeats 1000000
theorem getD_set_self {α : Type} {l : List α} {i : Nat} {x d : α} (h : i < l.length) : (l.set i x).getD i d = x := by
  simp [List.getD_eq_getElem?_getD, h]
theorem getD_set_ne {α : Type} {l : List α} {i j : Nat} {x d : α} (h : i ≠ j) : (l.set i x).getD j d = l.getD j d := by
  simp [List.getD_eq_getElem?_getD, List.getElem?_set, h]
theorem wtF_iff' (T : List Bool) (v : Nat) : ∀ (E : List Ed) (w : List Bool), (E.foldl (fun w e => if T.getD e.1 false then w else w.set e.2 true) w).getD v false = true ↔ (w.getD v false = true ∨ (v < w.length ∧ ∃ e ∈ E, e.2 = v ∧ T.getD e.1 false = false))
  | [], w => by simp
  | e :: E, w => by
    rw [List.foldl_cons, wtF_iff' T v E]
    cases hT : T.getD e.1 false
    · rw [if_neg (by decide)]
      rw [List.length_set]
      by_cases he : e.2 = v
      · by_cases hv : v < w.length
        · rw [he, getD_set_self hv]
          simp only [true_or, true_iff]
          exact .inr ⟨hv, e, List.mem_cons_self, he, hT⟩
        · rw [he, List.set_eq_of_length_le (by omega)]
          simp [hv]
      · rw [getD_set_ne he]
        constructor
        · rintro (h | ⟨h1, x, hx, h2⟩)
          · exact .inl h
          · exact .inr ⟨h1, x, List.mem_cons_of_mem _ hx, h2⟩
        · rintro (h | ⟨h1, x, hx, h2⟩)
          · exact .inl h
          · rcases List.mem_cons.1 hx with rfl | hx
            · exact absurd h2.1 he
            · exact .inr ⟨h1, x, hx, h2⟩
    · rw [if_pos rfl]
      constructor
      · rintro (h | ⟨h1, x, hx, h2⟩)
        · exact .inl h
        · exact .inr ⟨h1, x, List.mem_cons_of_mem _ hx, h2⟩
      · rintro (h | ⟨h1, x, hx, h2⟩)
        · exact .inl h
        · rcases List.mem_cons.1 hx with rfl | hx
          · rw [hT] at h2; cases h2.2
          · exact .inr ⟨h1, x, hx, h2⟩
theorem wtF_iff {n : Nat} {T : List Bool} {E : List Ed} {v : Nat} (hv : v < n) : (wtF n T E).getD v false = true ↔ ∃ e ∈ E, e.2 = v ∧ T.getD e.1 false = false := by
  unfold wtF
  rw [wtF_iff']
  have e0 : (List.replicate n false).getD v false = false := by simp [List.getD_eq_getElem?_getD, hv]
  rw [e0]
  simp [hv]
theorem avail_iff {n : Nat} {T : List Bool} {E : List Ed} {v : Nat} (hv : v < n) : availB n T E v = true ↔ T.getD v false = false ∧ ∀ e ∈ E, e.2 = v → T.getD e.1 false = true := by
  unfold availB
  rw [Bool.and_eq_true, Bool.not_eq_true', Bool.not_eq_true', ← Bool.not_eq_true (b := (wtF n T E).getD v false), wtF_iff hv]
  constructor
  · rintro ⟨h1, h2⟩
    exact ⟨h1, fun e he hv => Classical.byContradiction fun hn => h2 ⟨e, he, hv, by simpa using hn⟩⟩
  · rintro ⟨h1, h2⟩
    refine ⟨h1, ?_⟩
    rintro ⟨e, he, hv, ht⟩
    rw [h2 e he hv] at ht; cases ht
/-- An order of a graph's nodes. -/
structure DOrd (n : Nat) (E : List Ed) (D : List Nat) : Prop where
  nd : D.Nodup
  lt : ∀ v ∈ D, v < n
  bef : ∀ j, j < D.length → ∀ e ∈ E, e.2 = D.getD j 0 → e.1 ∈ D.take j
theorem DOrd.snoc {n : Nat} {E : List Ed} {D : List Nat} {v : Nat} (h : DOrd n E D) (hv : v < n) (hn : v ∉ D) (hb : ∀ e ∈ E, e.2 = v → e.1 ∈ D) : DOrd n E (D ++ [v]) := by
  refine ⟨?_, ?_, ?_⟩
  · rw [List.nodup_append]
    refine ⟨h.nd, by simp, ?_⟩
    intro a ha b hb e
    rw [List.mem_singleton] at hb
    rw [e, hb] at ha; exact hn ha
  · intro x hx
    rcases List.mem_append.1 hx with hx | hx
    · exact h.lt x hx
    · rw [List.mem_singleton] at hx; omega
  · intro j hj e he hej
    rw [List.length_append, List.length_singleton] at hj
    by_cases hjl : j < D.length
    · have e1 : (D ++ [v]).getD j 0 = D.getD j 0 := by simp [List.getD_eq_getElem?_getD, List.getElem?_append, hjl]
      rw [e1] at hej
      rw [List.take_append_of_le_length (by omega)]
      exact h.bef j hjl e he hej
    · have hj2 : j = D.length := by omega
      subst hj2
      have e1 : (D ++ [v]).getD D.length 0 = v := by simp [List.getD_eq_getElem?_getD]
      rw [e1] at hej
      rw [List.take_append_of_le_length (by omega), List.take_length]
      exact hb e he hej
theorem nodup_sub_len {α : Type} [DecidableEq α] : ∀ {A B : List α}, A.Nodup → (∀ x ∈ A, x ∈ B) → A.length ≤ B.length
  | [], _, _, _ => Nat.zero_le _
  | a :: A, B, hd, hs => by
    obtain ⟨h1, h2⟩ := List.nodup_cons.1 hd
    have hm := hs a List.mem_cons_self
    have := nodup_sub_len (A := A) (B := B.erase a) h2 fun x hx => by
      have hne : x ≠ a := fun e => h1 (by rw [← e]; exact hx)
      rw [List.mem_erase_of_ne hne]
      exact hs x (List.mem_cons_of_mem _ hx)
    rw [List.length_erase_of_mem hm] at this
    have := List.length_pos_of_mem hm
    rw [List.length_cons]; omega
theorem nodup_lt_len {n : Nat} : ∀ {D : List Nat}, D.Nodup → (∀ v ∈ D, v < n) → D.length ≤ n := by
  intro D hd hl
  have := nodup_sub_len (B := List.range n) hd fun v hv => List.mem_range.2 (hl v hv)
  simpa using this
theorem full_len {n : Nat} {D : List Nat} (hall : ∀ v, v < n → v ∈ D) : n ≤ D.length := by
  have := nodup_sub_len (A := List.range n) (B := D) List.nodup_range fun v hv => hall v (List.mem_range.1 hv)
  simpa using this
/-- Any other order of the nodes makes the search succeed. -/
theorem dord_run {n : Nat} {E : List Ed} (S : List Nat) (hS : DOrd n E S) (hSa : ∀ v, v < n → v ∈ S) : ∀ (k : Nat) (T : List Bool) (D : List Nat), T.length = n → (∀ v, v < n → (T.getD v false = true ↔ v ∈ D)) → DOrd n E D → D.length + k = n →
    ∃ D', dordG n E k T D = (D', 0) ∧ DOrd n E D' ∧ D'.length = n
  | 0, T, D, hT, hTD, hD, hk => ⟨D, rfl, hD, by omega⟩
  | k + 1, T, D, hT, hTD, hD, hk => by
    have hE1 : ∀ e ∈ E, e.2 < n → e.1 < n := by
      intro e he h2
      obtain ⟨j, hj, hje⟩ := List.getElem_of_mem (hSa _ h2)
      have := hS.bef j hj e he (by simp [List.getD_eq_getElem?_getD, hj, hje])
      exact hS.lt _ (List.mem_of_mem_take this)
    rcases dnQ_rng (availB n T E) n 0 with ⟨h1, h2⟩ | ⟨v, h1, hv, h2⟩
    · exfalso
      have hall : ∀ j, j < S.length → ∀ v, S.getD j 0 = v → v ∈ D := by
        intro j
        induction j using Nat.strongRecOn with
        | _ j ih =>
          intro hj v hv
          have hvS : v ∈ S := by rw [← hv, List.getD_eq_getElem?_getD, List.getElem?_eq_getElem hj]; exact List.getElem_mem hj
          have hvn := hS.lt v hvS
          have hav := h2 v (Nat.zero_le _) hvn
          refine Classical.byContradiction fun hn => ?_
          have : availB n T E v = true := by
            rw [avail_iff hvn]
            refine ⟨by cases hx : T.getD v false; rfl; exact absurd ((hTD v hvn).1 hx) hn, fun e he hev => ?_⟩
            have hb := hS.bef j hj e he (hev.trans hv.symm)
            obtain ⟨i, hi, hie⟩ := List.getElem_of_mem hb
            rw [List.length_take] at hi
            rw [List.getElem_take] at hie
            have := ih i (by omega) (by omega) e.1 (by simp [List.getD_eq_getElem?_getD, show i < S.length by omega, hie])
            exact (hTD _ (hE1 e he (by omega))).2 this
          rw [hav] at this; cases this
      have := full_len (n := n) (D := D) fun v hv => by
        obtain ⟨j, hj, hje⟩ := List.getElem_of_mem (hSa v hv)
        exact hall j hj v (by simp [List.getD_eq_getElem?_getD, hj, hje])
      omega
    · rw [avail_iff hv] at h2
      have hvD : v ∉ D := fun h => by rw [(hTD v hv).2 h] at h2; cases h2.1
      have hrun : dordG n E (k + 1) T D = dordG n E k (T.set v true) (D ++ [v]) := by
        show (if dnQ (availB n T E) n 0 < 0 then ([], 20) else dordG n E k (T.set (dnQ (availB n T E) n 0).toNat true) (D ++ [(dnQ (availB n T E) n 0).toNat])) = _
        rw [h1, if_neg (by omega), Int.toNat_natCast]
      rw [hrun]
      refine dord_run S hS hSa k _ _ (by rw [List.length_set]; exact hT) (fun u hu => ?_) (hD.snoc hv hvD fun e he hev => (hTD _ (hE1 e he (by omega))).1 (h2.2 e he hev)) (by rw [List.length_append, List.length_singleton]; omega)
      by_cases huv : v = u
      · subst huv
        rw [getD_set_self (by omega)]; simp
      · rw [getD_set_ne huv, hTD u hu, List.mem_append, List.mem_singleton]
        exact ⟨.inl, fun h => h.resolve_right fun e => huv e.symm⟩
theorem dordE_run {n : Nat} {E : List Ed} (S : List Nat) (hS : DOrd n E S) (hSa : ∀ v, v < n → v ∈ S) : ∃ D, dordE n E = (D, 0) ∧ DOrd n E D ∧ ∀ v, v < n → v ∈ D := by
  obtain ⟨D, h1, h2, h3⟩ := dord_run S hS hSa n (List.replicate n false) [] (by simp) (fun v hv => by simp [List.getD_eq_getElem?_getD, hv]) ⟨by simp, by simp, by simp⟩ (by simp)
  refine ⟨D, h1, h2, fun v hv => Classical.byContradiction fun hn => ?_⟩
  have := nodup_lt_len (n := n) (D := v :: D) (List.nodup_cons.2 ⟨hn, h2.nd⟩) (fun u hu => by
    rcases List.mem_cons.1 hu with rfl | hu
    · exact hv
    · exact h2.lt u hu)
  rw [List.length_cons] at this
  omega
def inE (E : List Ed) (v : Nat) : List Ed := E.filter fun e => e.2 == v
def foldE (H st : List Int) (L : List Ed) (x : Int) : Int := L.foldl (fun n e => imax n (IntKind.i64.wrap (st.getD e.1 0 + H.getD e.1 0))) x
theorem earV_set (H : List Int) (v : Nat) (st : List Int) (hv : v < st.length) : ∀ (E : List Ed), (∀ e ∈ E, e.2 = v → e.1 ≠ v) → ∀ x : Int, E.foldl (earS H v) (st.set v x) = st.set v (foldE H st (inE E v) x)
  | [], _, x => rfl
  | e :: E, hE, x => by
    have ih := earV_set H v st hv E fun e he => hE e (List.mem_cons_of_mem _ he)
    rw [List.foldl_cons]
    have he0 : earS H v (st.set v x) e = if ((e.2 : Int) == v) = true then (st.set v x).set v (imax ((st.set v x).getD v 0) (IntKind.i64.wrap ((st.set v x).getD e.1 0 + H.getD e.1 0))) else st.set v x := rfl
    rw [he0]
    unfold inE at ih ⊢
    by_cases h : e.2 = v
    · have h1 : ((e.2 : Int) == v) = true := by rw [h]; exact beq_self_eq_true _
      have h2 : (e.2 == v) = true := by rw [h]; exact beq_self_eq_true _
      have h3 := hE e List.mem_cons_self h
      rw [if_pos h1, List.filter_cons, if_pos h2, getD_set_self hv, getD_set_ne (fun e2 => h3 e2.symm), List.set_set, ih]
      rfl
    · have h1 : ((e.2 : Int) == v) = false := by rw [beq_eq_false_iff_ne]; omega
      have h2 : (e.2 == v) = false := by rw [beq_eq_false_iff_ne]; exact h
      rw [h1, if_neg (by decide), List.filter_cons, h2, if_neg (by decide)]
      exact ih x
theorem earV_eq (H : List Int) (E : List Ed) (st : List Int) (v : Nat) (hv : v < st.length) (hE : ∀ e ∈ E, e.2 = v → e.1 ≠ v) : earV H E st v = st.set v (foldE H st (inE E v) (st.getD v 0)) := by
  have := earV_set H v st hv E hE (st.getD v 0)
  rw [← this]
  unfold earV
  congr 1
  rw [List.getD_eq_getElem?_getD, List.getElem?_eq_getElem hv, Option.getD_some, List.set_getElem_self]
theorem foldE_congr {H st st' : List Int} : ∀ {L : List Ed} (x : Int), (∀ e ∈ L, st.getD e.1 0 = st'.getD e.1 0) → foldE H st L x = foldE H st' L x
  | [], _, _ => rfl
  | e :: L, x, h => by
    unfold foldE
    rw [List.foldl_cons, List.foldl_cons, h e List.mem_cons_self]
    exact foldE_congr _ fun e he => h e (List.mem_cons_of_mem _ he)
theorem inE_mem {E : List Ed} {v : Nat} {e : Ed} : e ∈ inE E v ↔ e ∈ E ∧ e.2 = v := by
  unfold inE; rw [List.mem_filter, beq_iff_eq]
theorem ear_fix {H : List Int} {E : List Ed} {D : List Nat} (hD : DOrd H.length E D) : ∀ j, j ≤ D.length →
    (∀ v, v < H.length → v ∉ D.take j → ((D.take j).foldl (earV H E) (List.replicate H.length 0)).getD v 0 = 0) ∧
    (∀ v ∈ D.take j, ((D.take j).foldl (earV H E) (List.replicate H.length 0)).getD v 0 = foldE H ((D.take j).foldl (earV H E) (List.replicate H.length 0)) (inE E v) 0)
  | 0, _ => ⟨fun v hv _ => by simp [List.getD_eq_getElem?_getD, hv], fun v hv => by simp at hv⟩
  | j + 1, hj => by
    obtain ⟨i1, i2⟩ := ear_fix hD j (by omega)
    have hstep := foldl_take1 (earV H E) (List.replicate H.length 0) D j 0 (by omega)
    have hsl : ((D.take j).foldl (earV H E) (List.replicate H.length 0)).length = H.length := by rw [earE_len', List.length_replicate]
    have hvm : D.getD j 0 ∈ D := by rw [List.getD_eq_getElem?_getD, List.getElem?_eq_getElem (show j < D.length by omega)]; exact List.getElem_mem _
    have hvl := hD.lt _ hvm
    have hbef := hD.bef j (by omega)
    have htk : D.take (j + 1) = D.take j ++ [D.getD j 0] := by
      rw [List.take_add_one, List.getElem?_eq_getElem (show j < D.length by omega)]; simp [List.getD_eq_getElem?_getD, show j < D.length by omega]
    have hvn : D.getD j 0 ∉ D.take j := by
      have := (List.take_sublist (j + 1) D).nodup hD.nd
      rw [htk, List.nodup_append] at this
      intro h
      exact this.2.2 _ h _ (by simp) rfl
    generalize hst : (D.take j).foldl (earV H E) (List.replicate H.length 0) = st at *
    rw [hstep]
    generalize D.getD j 0 = v at *
    rw [earV_eq H E st v (by omega) (fun e he hev h => hvn (h ▸ hbef e he hev)), i1 v hvl hvn]
    refine ⟨fun u hu hn => ?_, fun u hu => ?_⟩
    · rw [htk, List.mem_append, List.mem_singleton, not_or] at hn
      rw [getD_set_ne (fun e => hn.2 e.symm)]
      exact i1 u hu hn.1
    · have hcong : ∀ L : List Ed, (∀ e ∈ L, e.1 ∈ D.take j) → ∀ X : Int, foldE H (st.set v X) L 0 = foldE H st L 0 := by
        intro L hL X
        refine foldE_congr 0 fun e he => getD_set_ne fun h => hvn (h ▸ hL e he)
      rw [htk, List.mem_append, List.mem_singleton] at hu
      rcases hu with hu | rfl
      · have huv : v ≠ u := fun e => hvn (e ▸ hu)
        rw [getD_set_ne huv, i2 u hu, hcong]
        intro e he
        obtain ⟨h1, h2⟩ := inE_mem.1 he
        obtain ⟨i, hi, hie⟩ := List.getElem_of_mem hu
        rw [List.length_take] at hi
        rw [List.getElem_take] at hie
        have := hD.bef i (by omega) e h1 (by simp [List.getD_eq_getElem?_getD, show i < D.length by omega, hie, h2])
        exact (List.take_subset_take_left _ (by omega)) this
      · rw [getD_set_self (by omega), hcong]
        intro e he
        obtain ⟨h1, h2⟩ := inE_mem.1 he
        exact hbef e h1 h2
theorem earE_fix {H : List Int} {E : List Ed} {D : List Nat} (hD : DOrd H.length E D) {v : Nat} (hv : v ∈ D) : (earE H E D).getD v 0 = foldE H (earE H E D) (inE E v) 0 := by
  have := (ear_fix hD D.length (Nat.le_refl _)).2 v (by rw [List.take_length]; exact hv)
  rw [List.take_length] at this
  exact this
theorem fold_le {α : Type} (f : α → Int) : ∀ (L : List α) (b c : Int), L.foldl (fun n x => imax n (f x)) b ≤ c ↔ b ≤ c ∧ ∀ x ∈ L, f x ≤ c
  | [], b, c => by simp
  | x :: L, b, c => by
    rw [List.foldl_cons, fold_le f L]
    have : imax b (f x) ≤ c ↔ b ≤ c ∧ f x ≤ c := by unfold imax; split <;> omega
    rw [this]
    simp only [List.mem_cons, forall_eq_or_imp]
    exact and_assoc
theorem le_ext {a b : Int} (h : ∀ c, a ≤ c ↔ b ≤ c) : a = b := Int.le_antisymm ((h b).2 (Int.le_refl _)) ((h a).1 (Int.le_refl _))
end Go.Proofs
namespace Go.Proofs
open Go Go.Ab
set_option maxHeartbeats 8000000
set_option maxRecDepth 100000
attribute [local irreducible] Awp aops aopsL Go.Ab.Pure PureOwn PureTwoM
def hrsOf (l : List Wk) : List Int := l.map (·.hr)
@[go_sem] theorem hrsOf_len (l : List Wk) : (hrsOf l).length = l.length := by simp [hrsOf]
theorem hrs_snoc (l : List Wk) (i : Nat) (h : i < l.length) : ints (hrsOf (l.take i)) ++ [[.v (.int .i64 (l.getD i zeroWk).hr)]] = ints (hrsOf (l.take (i + 1))) := by
  rw [ids_take1 h]; simp [ints, hrsOf]
def edgesAt (l : List Wk) (i : Nat) : List Ed := (l.getD i zeroWk).af.map fun s => ((findW l s).toNat, i)
def edgesUp (l : List Wk) (i : Nat) : List Ed := (List.range i).flatMap (edgesAt l)
theorem edgesUp_step (l : List Wk) (i : Nat) : edgesUp l (i + 1) = edgesUp l i ++ edgesAt l i := by
  unfold edgesUp
  rw [List.range_succ]; simp
theorem edgesUp_len (l : List Wk) (h : ∀ q ∈ l, q.af.length ≤ 20) : ∀ i, i ≤ l.length → (edgesUp l i).length ≤ i * 20
  | 0, _ => by simp [edgesUp]
  | i + 1, hi => by
    have := edgesUp_len l h i (by omega)
    have h2 := h _ (getD_mem zeroWk (show i < l.length by omega))
    rw [edgesUp_step, List.length_append]
    unfold edgesAt
    rw [List.length_map]
    omega
theorem edgesAt_len (l : List Wk) (i : Nat) : (edgesAt l i).length = (l.getD i zeroWk).af.length := by simp [edgesAt]
theorem edges_snoc (l : List Wk) (i k : Nat) (h : k < (l.getD i zeroWk).af.length) (hf : ¬ findW l ((l.getD i zeroWk).af.getD k ⟨#[]⟩) < 0) :
    eds (edgesUp l i ++ (edgesAt l i).take k) ++ [[.v (.int .i64 (findW l ((l.getD i zeroWk).af.getD k ⟨#[]⟩))), .v (.int .i64 i)]] = eds (edgesUp l i ++ (edgesAt l i).take (k + 1)) := by
  have e : (edgesAt l i).take (k + 1) = (edgesAt l i).take k ++ [((findW l ((l.getD i zeroWk).af.getD k ⟨#[]⟩)).toNat, i)] := by
    have hk : k < (edgesAt l i).length := by rw [edgesAt_len]; exact h
    rw [List.take_add_one, List.getElem?_eq_getElem hk]
    have e0 : (edgesAt l i)[k] = ((findW l ((l.getD i zeroWk).af.getD k ⟨#[]⟩)).toNat, i) := by
      rw [List.getD_eq_getElem?_getD (l := (l.getD i zeroWk).af), List.getElem?_eq_getElem h, Option.getD_some]
      simp [edgesAt]
    rw [e0]; rfl
  rw [e, ← List.append_assoc]
  have hs := eds_snoc (edgesUp l i ++ (edgesAt l i).take k) ((findW l ((l.getD i zeroWk).af.getD k ⟨#[]⟩)).toNat, i)
  have e2 : (((findW l ((l.getD i zeroWk).af.getD k ⟨#[]⟩)).toNat : Nat) : Int) = findW l ((l.getD i zeroWk).af.getD k ⟨#[]⟩) := Int.toNat_of_nonneg (by omega)
  simp only [e2] at hs
  exact hs
def rc14a (l : List Wk) (i : Nat) : AState := mkS [(0, .sl (wks l)), (6, .own 0), (7, .own 1), (8, .v (.int .i64 i))] [(0, .row (ints (hrsOf (l.take i))) 1 3), (1, .row (eds (edgesUp l i)) 2 63)]
def rc14b (l : List Wk) (i k : Nat) : AState := mkS [(0, .sl (wks l)), (6, .own 0), (7, .own 1), (8, .v (.int .i64 i)), (9, .v (.int .i64 k))] [(0, .row (ints (hrsOf (l.take (i + 1)))) 1 3), (1, .row (eds (edgesUp l i ++ (edgesAt l i).take k)) 2 63)]
theorem rcrit_bad (l : List Wk) (ha : ∀ q ∈ l, q.af.length < 1000000 ∧ q.id.size < 1000000) (hl : l.length < 1000000) (he : (rordE l).2 ≠ 0) : Pure Tryz.prog 14 [.sl (wks l)] (.tup [.v (.int .i64 0), .v (.int .i64 (rordE l).2)]) := by
  have c0 := rord_ok l ha hl
  have he' : ((rordE l).2 != 0) = true := by simpa using he
  generalize rordE l = R at *
  obtain ⟨D, e⟩ := R
  clear ha
  refine fn_pure Tryz.F14 (Nat.le_of_ble_eq_true rfl) ?_; unfold Tryz.ac14 AR AM AO
  repeat' (first
 | (apply Awp.sreg; (case hn => (simp only [List.length_cons, List.length_nil, Nat.reduceAdd] <;> rfl)))
 | (refine st_nil ?_)
 | (apply st_a; (case hc => rfl); (case he => (simp only [go_sem, *] <;> rfl)); (case hu => (simp only [updL_nil, updL_cons] <;> rfl)); (case hp => first | trivial))
 | (apply st_c; (case hc => (simp only [go_sem, *] <;> rfl)); (case hl => (simp only [go_sem, *] <;> rfl)); (case hn => (simp only [go_sem, *] <;> rfl)); (case hp => first | exact c0 | (have hXz := c0; simp only [go_sem, *] at hXz; exact hXz)))
 | (refine Awp.ret ?_; try simp only [go_sem, *])
 | (apply Awp.cond; (case hc => (simp only [go_sem, *] <;> rfl)); all_goals (intro hg; (try simp only [Bool.not_true, Bool.not_false, reduceCtorEq] at hg); (try have hg' := hg); (try simp only [decide_eq_true_eq, decide_eq_false_iff_not, Bool.and_eq_true, Bool.or_eq_false_iff, bne_iff_ne, bne_eq_false_iff_eq, beq_iff_eq, beq_eq_false_iff_ne, Int.not_lt, Int.not_le, Int.ofNat_lt, Int.ofNat_le, Int.natCast_inj] at hg')))
 | refine Awp.seq ?_)
  all_goals repeat' (first | exact Lower.int (by first | rfl | (simp only [true_and, Bool.true_and, Bool.false_and, Bool.and_true, Bool.and_false, Bool.true_or, Bool.false_or, reduceIte, Bool.false_eq_true, *]; done) | (simp only [true_and, reduceIte, Bool.false_eq_true, *] <;> rfl) | (simp [true_and]; done) | (simp_all [true_and]; done) | omega) | refine Lower.tupF ?_ | refine All2.cons ?_ ?_ | exact All2.nil)
theorem rcrit_ok (l : List Wk) (D : List Nat) (ha : ∀ q ∈ l, q.af.length ≤ 20 ∧ q.id.size < 1000000) (hl : l.length ≤ 140) (he : (rordE l).2 = 0) (hw : ∀ q ∈ l, wantB l q = true) (hE : EdOk l.length (edgesUp l l.length)) (hH : HrOk (hrsOf l)) (hD : dordE l.length (edgesUp l l.length) = (D, 0)) (hDl : D.length < 1000000) (hDm : ∀ i, i < D.length → D.getD i 0 < l.length) :
    Pure Tryz.prog 14 [.sl (wks l)] (.tup [.v (.int .i64 (lenF (hrsOf l) (earE (hrsOf l) (edgesUp l l.length) D) l.length)), .v (.int .i64 0)]) := by
  have c0 := rord_ok l (fun q hq => ⟨by have := (ha q hq).1; omega, (ha q hq).2⟩) (by omega)
  have hel := fun i hi => edgesUp_len l (fun q hq => (ha q hq).1) i hi
  have hel1 := hel l.length (Nat.le_refl _)
  have c1 := dlen_ok (hrsOf l) (edgesUp l l.length) D (by rw [hrsOf_len]; omega) (by omega) (by rw [hrsOf_len]; exact hE) hH (by rw [hrsOf_len]; exact hD) hDl (by rw [hrsOf_len]; exact hDm)
  rw [hrsOf_len] at c1
  clear hE hH hD hDl hDm
  generalize lenF (hrsOf l) (earE (hrsOf l) (edgesUp l l.length) D) l.length = F at *
  generalize rordE l = R at *
  obtain ⟨D2, e⟩ := R
  simp only at he
  subst he
  refine fn_pure Tryz.F14 (Nat.le_of_ble_eq_true rfl) ?_; unfold Tryz.ac14 AR AM AO
  repeat' (first
 | (apply Awp.sreg; (case hn => (simp only [List.length_cons, List.length_nil, Nat.reduceAdd] <;> rfl)))
 | (refine st_nil ?_)
 | (apply st_a; (case hc => rfl); (case he => (simp only [go_sem, *] <;> rfl)); (case hu => (simp only [updL_nil, updL_cons] <;> rfl)); (case hp => first | trivial))
 | (apply st_c; (case hc => (simp only [go_sem, *] <;> rfl)); (case hl => (simp only [go_sem, *] <;> rfl)); (case hn => (simp only [go_sem, *] <;> rfl)); (case hp => first | exact c0 | (have hXz := c0; simp only [go_sem, *] at hXz; exact hXz)))
 | (refine Awp.skip ?_; try simp only [go_sem, *])
 | refine Awp.block ?_
 | (apply Awp.cond; (case hc => (simp only [go_sem, *] <;> rfl)); all_goals (intro hg; (try simp only [Bool.not_true, Bool.not_false, reduceCtorEq] at hg)))
 | refine Awp.seq ?_)
  refine Awp.loop (fun i : Nat => i ≤ l.length) 100 (fun i => rc14a l i) (fun i => l.length - i) 0 (Nat.zero_le _) ?_ ?_
  · refine Ghost.trans (Ghost.name 6 1 3 rfl (by decide)) ?_
    refine Ghost.trans (Ghost.name 7 2 63 rfl (by decide)) ?_
    unfold rc14a
    have e1 : ints (hrsOf (l.take 0)) = [] := rfl
    have e2 : eds (edgesUp l 0) = [] := rfl
    rw [e1, e2]
    clear ha hw hel c1
    (apply Ghost.mk [(0, 14), (1, 15)] []; (case hdead => rfl); (case hinj => rfl); (case hV => (simp only [go_sem, *]) <;> (repeat' (first | refine And.intro ?_ ?_ | exact View.int (by first | rfl | omega | (simp; done) | (rw [wrap_i64] <;> (try simp only [Int.natCast_add]) <;> omega) | (simp [*]; done)) | exact .own rfl (by decide)))); (case hB => (simp only [go_sem, *]) <;> (repeat' (first | refine And.intro ?_ ?_ | exact ⟨_, rfl, .rowE (by first | rfl | omega | (simp; done) | (rw [wrap_i64] <;> (try simp only [Int.natCast_add]) <;> omega) | (simp [*]; done))⟩))))
  · intro i hi
    have heli := hel i hi
    have htl : (l.take i).length = i := List.length_take_of_le hi
    clear c0
    by_cases hlt : i < l.length
    · have hlt' : (i : Int) < l.length := by omega
      have hat := wks_at l i hlt
      have hz : ((l.getD i zeroWk).cells).length = 5 := rfl
      have hhs := hrs_snoc l i hlt
      have hal := (ha _ (getD_mem zeroWk hlt)).1
      have hwi := hw _ (getD_mem zeroWk hlt)
      have hhl : (hrsOf (l.take i)).length = i := by rw [hrsOf_len, htl]
      have hel2 := edgesAt_len l i
      have hup := edgesUp_step l i
      clear hw ha hel hel1 c1
      unfold rc14a
      repeat' (first
 | (apply Awp.sreg; (case hn => (simp only [List.length_cons, List.length_nil, Nat.reduceAdd] <;> rfl)))
 | (refine st_nil ?_)
 | (apply st_a; (case hc => rfl); (case he => (simp only [go_sem, *] <;> rfl)); (case hu => (simp only [updL_nil, updL_cons] <;> rfl)); (case hp => first | trivial | omega | (simp; done) | (simp; omega)))
 | (refine Awp.skip ?_; try simp only [go_sem, *])
 | refine Awp.block ?_
 | (apply Awp.cond; (case hc => (simp only [go_sem, *] <;> rfl)); all_goals (intro hg; (try simp only [Bool.not_true, Bool.not_false, reduceCtorEq] at hg)))
 | refine Awp.seq ?_)
      refine Awp.loop (fun k : Nat => k ≤ (l.getD i zeroWk).af.length) 200 (fun k => rc14b l i k) (fun k => (l.getD i zeroWk).af.length - k) 0 (Nat.zero_le _) ?_ ?_
      · have e1 : edgesUp l i ++ (edgesAt l i).take 0 = edgesUp l i := by simp
        unfold rc14b
        rw [e1]
        clear hup
        (apply Ghost.mk [(0, 111)] []; (case hdead => rfl); (case hinj => rfl); (case hV => (simp only [go_sem, *]) <;> (repeat' (first | refine And.intro ?_ ?_ | exact View.int (by first | rfl | omega | (simp; done) | (rw [wrap_i64] <;> (try simp only [Int.natCast_add]) <;> omega) | (simp [*]; done)) | exact .own rfl (by decide)))); (case hB => (simp only [go_sem, *]) <;> (repeat' (first | refine And.intro ?_ ?_ | exact ⟨_, rfl, .rowE (by first | rfl | omega | (simp; done) | (rw [wrap_i64] <;> (try simp only [Int.natCast_add]) <;> omega) | (simp [*]; done))⟩))))
      · intro k hk
        by_cases hkt : k < (l.getD i zeroWk).af.length
        · have hkt' : (k : Int) < (l.getD i zeroWk).af.length := by omega
          have hsat := strs_at (l.getD i zeroWk).af k hkt
          have c2 := wfind_ok l ((l.getD i zeroWk).af.getD k ⟨#[]⟩) (by omega)
          have hfn : ¬ findW l ((l.getD i zeroWk).af.getD k ⟨#[]⟩) < 0 := fun h => by
            have := findW_lt.1 h
            rw [List.all_eq_true.1 hwi _ (getD_mem _ hkt)] at this
            cases this
          have hsn := edges_snoc l i k hkt hfn
          have hlen : (edgesUp l i ++ (edgesAt l i).take k).length < 1000000 := by rw [List.length_append, List.length_take]; omega
          clear hwi hup hhs
          generalize findW l ((l.getD i zeroWk).af.getD k ⟨#[]⟩) = X at *
          unfold rc14b
          repeat' (first
 | (apply Awp.sreg; (case hn => (simp only [List.length_cons, List.length_nil, Nat.reduceAdd] <;> rfl)))
 | (refine st_nil ?_)
 | (apply st_a; (case hc => rfl); (case he => (simp only [go_sem, *] <;> rfl)); (case hu => (simp only [updL_nil, updL_cons] <;> rfl)); (case hp => first | trivial | omega | (simp; done) | (simp; omega)))
 | (apply st_c; (case hc => (simp only [go_sem, *] <;> rfl)); (case hl => (simp only [go_sem, *] <;> rfl)); (case hn => (simp only [go_sem, *] <;> rfl)); (case hp => first | exact c2 | (have hXz := c2; simp only [go_sem, *] at hXz; exact hXz)))
 | (apply Awp.reg; (case hn => (simp only [List.length_cons, List.length_nil, Nat.reduceAdd] <;> rfl)))
 | (refine Awp.skip ?_; try simp only [go_sem, *])
 | refine Awp.block ?_
 | (apply Awp.cond; (case hc => (simp only [go_sem, *] <;> rfl)); all_goals (intro hg; (try simp only [Bool.not_true, Bool.not_false, reduceCtorEq] at hg)))
 | refine Awp.seq ?_)
          refine ⟨k + 1, by omega, by omega, ?_⟩
          (apply Ghost.mk [(1, 222)] []; (case hdead => rfl); (case hinj => rfl); (case hV => (simp only [go_sem, *]) <;> (repeat' (first | refine And.intro ?_ ?_ | exact View.int (by first | rfl | omega | (simp; done) | (rw [wrap_i64] <;> (try simp only [Int.natCast_add]) <;> omega) | (simp [*]; done)) | exact .own rfl (by decide)))); (case hB => (simp only [go_sem, *]) <;> (repeat' (first | refine And.intro ?_ ?_ | exact ⟨_, rfl, .rowE (by first | rfl | omega | (simp; done) | (rw [wrap_i64] <;> (try simp only [Int.natCast_add]) <;> omega) | (simp [*]; done))⟩))))
        · have hkt' : ¬ (k : Int) < (l.getD i zeroWk).af.length := by omega
          have e1 : (edgesAt l i).take k = edgesAt l i := List.take_of_length_le (by omega)
          unfold rc14b
          rw [e1, ← hup]
          clear hwi hup hhs e1
          repeat' (first
 | (apply Awp.sreg; (case hn => (simp only [List.length_cons, List.length_nil, Nat.reduceAdd] <;> rfl)))
 | (refine st_nil ?_)
 | (apply st_a; (case hc => rfl); (case he => (simp only [go_sem, *] <;> rfl)); (case hu => (simp only [updL_nil, updL_cons] <;> rfl)); (case hp => first | trivial | omega))
 | (apply Awp.reg; (case hn => (simp only [List.length_cons, List.length_nil, Nat.reduceAdd] <;> rfl)))
 | (refine Awp.exit ?_; try simp only [go_sem, *])
 | (apply Awp.cond; (case hc => (simp only [go_sem, *] <;> rfl)); all_goals (intro hg; (try simp only [Bool.not_true, Bool.not_false, reduceCtorEq] at hg)))
 | refine Awp.seq ?_)
          refine ⟨i + 1, by omega, by omega, ?_⟩
          (apply Ghost.mk [] []; (case hdead => rfl); (case hinj => rfl); (case hV => (simp only [go_sem, *]) <;> (repeat' (first | refine And.intro ?_ ?_ | exact View.int (by first | rfl | omega | (simp; done) | (rw [wrap_i64] <;> (try simp only [Int.natCast_add]) <;> omega) | (simp [*]; done)) | exact .own rfl (by decide)))); (case hB => (simp only [go_sem, *]) <;> (repeat' (first | refine And.intro ?_ ?_ | exact ⟨_, rfl, .rowE (by first | rfl | omega | (simp; done) | (rw [wrap_i64] <;> (try simp only [Int.natCast_add]) <;> omega) | (simp [*]; done))⟩))))
    · have hlt' : ¬ (i : Int) < l.length := by omega
      obtain rfl : i = l.length := by omega
      have e1 : l.take l.length = l := List.take_length
      unfold rc14a
      rw [e1]
      clear hw ha hel e1
      repeat' (first
 | (apply Awp.sreg; (case hn => (simp only [List.length_cons, List.length_nil, Nat.reduceAdd] <;> rfl)))
 | (refine st_nil ?_)
 | (apply st_a; (case hc => rfl); (case he => (simp only [go_sem, *] <;> rfl)); (case hu => (simp only [updL_nil, updL_cons] <;> rfl)); (case hp => first | trivial))
 | (apply st_cd; (case hc => (simp only [go_sem, *] <;> rfl)); (case hl => (simp only [go_sem, *] <;> rfl)); (case hn => (simp only [go_sem, *] <;> rfl)); (case hp => first | exact c1 | (have hXz := c1; simp only [go_sem, *] at hXz; exact hXz)); (case hd => first | exact .v _ | exact .any | exact .nils | (repeat' (first | exact Dry.v _ | exact Dry.any | exact Dry.nils | exact Dry.slE | refine Dry.agg ?_ | refine Dry.tup ?_ | (refine List.forall_mem_cons.2 (And.intro ?_ ?_)) | (intro cQ hQ; cases hQ; done)))); (case hm => first | decide | (simp; done)))
 | (refine Awp.ret ?_; try simp only [go_sem, *])
 | (refine Awp.exit ?_; try simp only [go_sem, *])
 | (apply Awp.cond; (case hc => (simp only [go_sem, *] <;> rfl)); all_goals (intro hg; (try simp only [Bool.not_true, Bool.not_false, reduceCtorEq] at hg)))
 | refine Awp.seq ?_)
      all_goals repeat' (first | exact Lower.int (by first | rfl | (simp only [true_and, Bool.true_and, Bool.false_and, Bool.and_true, Bool.and_false, Bool.true_or, Bool.false_or, reduceIte, Bool.false_eq_true, *]; done) | (simp only [true_and, reduceIte, Bool.false_eq_true, *] <;> rfl) | (simp [true_and]; done) | (simp_all [true_and]; done) | omega) | refine Lower.tupF ?_ | refine All2.cons ?_ ?_ | exact All2.nil)
end Go.Proofs
namespace Go.Proofs
open Go Go.Ab
set_option maxHeartbeats 1000000
/-- An order of jobs. -/
structure OrdOk (l S : List Wk) : Prop where
  nd : (ids S).Nodup
  mem : ∀ q ∈ S, q ∈ l
  all : ∀ t ∈ ids l, t ∈ ids S
  bef : ∀ k, k < S.length → ∀ s ∈ (S.getD k zeroWk).af, s ∈ ids (S.take k)
theorem take_app {α : Type} (a b : List α) (k : Nat) (h : k ≤ a.length) : (a ++ b).take k = a.take k := List.take_append_of_le_length h
theorem getD_app {α : Type} {a b : List α} {k : Nat} {d : α} (h : k < a.length) : (a ++ b).getD k d = a.getD k d := by
  simp [List.getD_eq_getElem?_getD, List.getElem?_append, h]
theorem ordG_ok {l : List Wk} (hw : ∀ q ∈ l, wantB l q = true) : ∀ (n : Nat) (W out : List Wk), (ids W).Nodup → (∀ t, t ∈ ids W ↔ t ∈ ids l ∧ t ∉ ids out) → (ids out).Nodup → (∀ q ∈ out, q ∈ l) →
    (∀ k, k < out.length → ∀ s ∈ (out.getD k zeroWk).af, s ∈ ids (out.take k)) → W.length = n → (ordG (sortW l) n W out).2 = 0 → OrdOk l (ordG (sortW l) n W out).1
  | 0, W, out, hW, hm, ho, hq, hb, hn, _ => by
    refine ⟨ho, hq, fun t ht => Classical.byContradiction fun hx => ?_, hb⟩
    have := (hm t).2 ⟨ht, hx⟩
    rw [List.length_eq_zero_iff.1 hn] at this
    cases this
  | n + 1, W, out, hW, hm, ho, hq, hb, hn, he => by
    have hstep : ordG (sortW l) (n + 1) W out = if idxF (readyB W) (sortW l) < 0 then ([], 20) else ordG (sortW l) n (delW W ((sortW l).getD (idxF (readyB W) (sortW l)).toNat zeroWk).id) (out ++ [(sortW l).getD (idxF (readyB W) (sortW l)).toNat zeroWk]) := rfl
    rw [hstep] at he ⊢
    rcases idxF_cases (readyB W) (sortW l) zeroWk with ⟨hi, _⟩ | ⟨i, hi, hlt, hrb⟩
    · rw [if_pos hi] at he; cases he
    · rw [hi, if_neg (by omega), Int.toNat_natCast] at he ⊢
      have hql : (sortW l).getD i zeroWk ∈ l := (sortW_perm l).mem_iff.1 (getD_mem _ hlt)
      generalize (sortW l).getD i zeroWk = q at *
      unfold readyB at hrb
      rw [Bool.and_eq_true, Bool.not_eq_true', List.any_eq_false] at hrb
      obtain ⟨hr1, hr2⟩ := hrb
      have hqW := hasK_iff.1 hr1
      have hqo : q.id ∉ ids out := ((hm _).1 hqW).2
      have hids : ids (out ++ [q]) = ids out ++ [q.id] := by simp [ids]
      refine ordG_ok hw n _ _ (delW_nodup _ hW) (fun t => ?_) ?_ ?_ ?_ (by have := delW_len hr1; omega) he
      · rw [delW_mem hW, hm, hids, List.mem_append, List.mem_singleton, not_or]
        exact and_assoc
      · rw [hids, List.nodup_append]
        refine ⟨ho, by simp, fun a ha b hb2 e => ?_⟩
        rw [List.mem_singleton] at hb2
        rw [e, hb2] at ha; exact hqo ha
      · intro x hx
        rcases List.mem_append.1 hx with hx | hx
        · exact hq x hx
        · rw [List.mem_singleton] at hx; rw [hx]; exact hql
      · intro k hk s hs
        rw [List.length_append, List.length_singleton] at hk
        by_cases hkl : k < out.length
        · rw [getD_app hkl] at hs
          rw [take_app _ _ _ (by omega)]
          exact hb k hkl s hs
        · have hk2 : k = out.length := by omega
          subst hk2
          have e1 : (out ++ [q]).getD out.length zeroWk = q := by simp [List.getD_eq_getElem?_getD]
          rw [e1] at hs
          rw [take_app _ _ _ (Nat.le_refl _), List.take_length]
          have h1 : s ∈ ids l := hasK_iff.1 (List.all_eq_true.1 (hw q hql) s hs)
          refine Classical.byContradiction fun hx => hr2 s hs (hasK_iff.2 ((hm s).2 ⟨h1, hx⟩))
theorem ordE_jobs {l : List Wk} (h : (ordE l).2 = 0) : jobsE l = 0 := by
  unfold ordE at h
  split at h
  · rename_i h1; exact absurd h h1
  · rename_i h1; simpa using h1
theorem ordE_ok {l : List Wk} (h : (ordE l).2 = 0) : OrdOk l (ordE l).1 := by
  have hj := ordE_jobs h
  unfold ordE at h ⊢
  rw [if_neg (by simp [hj])] at h ⊢
  exact ordG_ok (jobsE_inv hj).2.2 l.length l [] (ids_nodup hj) (fun t => by simp [ids]) (by simp [ids]) (by simp) (by simp) rfl h
theorem OrdOk.len {l S : List Wk} (h : OrdOk l S) (hl : (ids l).Nodup) : S.length = l.length := by
  have h1 : (ids S).length ≤ (ids l).length := nodup_sub_len h.nd fun t ht => by
    obtain ⟨q, hq, rfl⟩ := List.mem_map.1 ht
    exact List.mem_map.2 ⟨q, h.mem q hq, rfl⟩
  have h2 : (ids l).length ≤ (ids S).length := nodup_sub_len hl h.all
  rw [ids_len, ids_len] at h1 h2
  omega
theorem mapIx_app (K : List ByteArray) (s t : ByteArray) : mapIx (K ++ [s]) t = match mapIx K t with
  | some i => some i
  | none => if t = s then some K.length else none := by
  have e : mapIx (K ++ [s]) t = (mapIx K t).or (Option.map (fun i => i + K.length) (List.findIdx? (fun x => t.toList == x.toList) [s])) := by
    unfold mapIx; rw [List.findIdx?_append]
  rw [e]
  cases mapIx K t with
  | some i => rfl
  | none =>
    by_cases h : t = s
    · subst h; simp
    · have h2 : (t.toList == s.toList) = false := by rw [beq_eq_false_iff_ne]; exact fun e => h (str_eq e)
      simp [h, h2, List.findIdx?_cons]
theorem pK_in {K : List ByteArray} {s : ByteArray} {i : Nat} (h : mapIx K s = some i) : pK K s = K := by
  obtain ⟨h1, h2⟩ := mapIx_at h
  unfold pK
  rw [h]
  show K.set i s = K
  rw [List.getElem?_eq_getElem h1, Option.some.injEq] at h2
  rw [← h2, List.set_getElem_self]
theorem pK_out {K : List ByteArray} {s : ByteArray} (h : mapIx K s = none) : pK K s = K ++ [s] := by unfold pK; rw [h]; rfl
theorem getM_self {K : List ByteArray} {V : List Int} (hl : V.length = K.length) (s : ByteArray) (n : Int) : getM (pK K s) (pV K V s n) s = n := by
  cases h : mapIx K s with
  | some i =>
    obtain ⟨h1, h2⟩ := mapIx_at h
    rw [pK_in h]
    unfold getM pV
    rw [h]
    simp only
    exact getD_set_self (by omega)
  | none =>
    rw [pK_out h]
    unfold getM pV
    rw [mapIx_app, h]
    simp only [if_true]
    simp [List.getD_eq_getElem?_getD, ← hl]
theorem getM_ne {K : List ByteArray} {V : List Int} (hl : V.length = K.length) {s t : ByteArray} (hne : t ≠ s) (n : Int) : getM (pK K s) (pV K V s n) t = getM K V t := by
  cases h : mapIx K s with
  | some i =>
    obtain ⟨h1, h2⟩ := mapIx_at h
    rw [pK_in h]
    unfold getM pV
    rw [h]
    cases h3 : mapIx K t with
    | none => rfl
    | some j =>
      simp only
      refine getD_set_ne fun e => hne ?_
      obtain ⟨_, h4⟩ := mapIx_at h3
      rw [← e, h2] at h4
      exact (Option.some.inj h4).symm
  | none =>
    rw [pK_out h]
    unfold getM pV
    rw [mapIx_app, h]
    cases h3 : mapIx K t with
    | none => simp only [if_neg hne]
    | some j =>
      simp only
      exact getD_app (by have := (mapIx_at h3).1; omega)
def eM (S : List Wk) (s : ByteArray) : Int := getM (crG S).K (crG S).V s
def frF (f : ByteArray → Int) (af : List ByteArray) : Int := af.foldl (fun n s => imax n (f s)) 0
theorem frF_le (f : ByteArray → Int) (af : List ByteArray) (c : Int) : frF f af ≤ c ↔ 0 ≤ c ∧ ∀ s ∈ af, f s ≤ c := fold_le f af 0 c
theorem frF_congr {f g : ByteArray → Int} {af : List ByteArray} (h : ∀ s ∈ af, f s = g s) : frF f af = frF g af := by
  refine le_ext fun c => ?_
  rw [frF_le, frF_le]
  constructor <;> rintro ⟨h1, h2⟩ <;> refine ⟨h1, fun s hs => ?_⟩
  · rw [← h s hs]; exact h2 s hs
  · rw [h s hs]; exact h2 s hs
theorem frF_nonneg (f : ByteArray → Int) (af : List ByteArray) : 0 ≤ frF f af := ((frF_le f af _).1 (Int.le_refl _)).1
theorem crG_len' (S : List Wk) : (crG S).V.length = (crG S).K.length := crG_len S ⟨[], [], 0⟩ rfl
theorem eM_self {S : List Wk} {k : Nat} (h : k < S.length) : eM (S.take (k + 1)) (S.getD k zeroWk).id = IntKind.i64.wrap (frF (eM (S.take k)) (S.getD k zeroWk).af + (S.getD k zeroWk).hr) := by
  unfold eM
  rw [crG_step S k h]
  exact getM_self (crG_len' _) _ _
theorem eM_ne {S : List Wk} {k : Nat} (h : k < S.length) {t : ByteArray} (ht : t ≠ (S.getD k zeroWk).id) : eM (S.take (k + 1)) t = eM (S.take k) t := by
  unfold eM
  rw [crG_step S k h]
  exact getM_ne (crG_len' _) ht _
theorem ids_at {S : List Wk} {k : Nat} (h : k < S.length) : (S.getD k zeroWk).id ∈ ids S := List.mem_map.2 ⟨_, getD_mem _ h, rfl⟩
theorem ids_taken {S : List Wk} {k : Nat} {t : ByteArray} : t ∈ ids (S.take k) ↔ ∃ j, j < k ∧ j < S.length ∧ (S.getD j zeroWk).id = t := by
  unfold ids
  rw [List.mem_map]
  constructor
  · rintro ⟨q, hq, rfl⟩
    obtain ⟨j, hj, rfl⟩ := List.getElem_of_mem hq
    rw [List.length_take] at hj
    refine ⟨j, by omega, by omega, ?_⟩
    rw [List.getElem_take, List.getD_eq_getElem?_getD, List.getElem?_eq_getElem (by omega), Option.getD_some]
  · rintro ⟨j, h1, h2, rfl⟩
    refine ⟨_, ?_, rfl⟩
    rw [List.mem_take_iff_getElem]
    exact ⟨j, by omega, by simp [List.getD_eq_getElem?_getD, h2]⟩
theorem eM_up {S : List Wk} (hn : (ids S).Nodup) {k : Nat} {t : ByteArray} (ht : t ∈ ids (S.take k)) : ∀ j, k + j ≤ S.length → eM (S.take (k + j)) t = eM (S.take k) t
  | 0, _ => rfl
  | j + 1, hj => by
    rw [← eM_up hn ht j (by omega)]
    refine eM_ne (k := k + j) (by omega) fun e => ?_
    obtain ⟨i, h1, h2, h3⟩ := ids_taken.1 ht
    have := ids_inj hn h2 (show k + j < S.length by omega) (h3.trans e)
    omega
theorem eM_top {S : List Wk} (hn : (ids S).Nodup) {k : Nat} (hk : k ≤ S.length) {t : ByteArray} (ht : t ∈ ids (S.take k)) : eM S t = eM (S.take k) t := by
  have := eM_up hn ht (S.length - k) (by omega)
  rw [← this, show k + (S.length - k) = S.length by omega, List.take_length]
theorem eM_fix {l S : List Wk} (h : OrdOk l S) {k : Nat} (hk : k < S.length) : eM S (S.getD k zeroWk).id = IntKind.i64.wrap (frF (eM S) (S.getD k zeroWk).af + (S.getD k zeroWk).hr) := by
  rw [eM_top h.nd (k := k + 1) (by omega) (ids_taken.2 ⟨k, by omega, hk, rfl⟩), eM_self hk]
  congr 2
  refine frF_congr fun s hs => ?_
  exact (eM_top h.nd (by omega) (h.bef k hk s hs)).symm
theorem eM_val {l S : List Wk} (h : OrdOk l S) (hr : ∀ q ∈ S, 1 ≤ q.hr ∧ q.hr ≤ 1048576) (hl : S.length ≤ 200) : ∀ k, k < S.length →
    eM S (S.getD k zeroWk).id = frF (eM S) (S.getD k zeroWk).af + (S.getD k zeroWk).hr ∧ 1 ≤ eM S (S.getD k zeroWk).id ∧ eM S (S.getD k zeroWk).id ≤ (k + 1) * 1048576 := by
  intro k
  induction k using Nat.strongRecOn with
  | _ k ih =>
    intro hk
    have h1 := eM_fix h hk
    have h2 := hr _ (getD_mem zeroWk hk)
    have h3 := frF_nonneg (eM S) (S.getD k zeroWk).af
    have h4 : frF (eM S) (S.getD k zeroWk).af ≤ k * 1048576 := by
      rw [frF_le]
      refine ⟨by omega, fun s hs => ?_⟩
      obtain ⟨j, j1, j2, rfl⟩ := ids_taken.1 (h.bef k hk s hs)
      have := (ih j j1 j2).2.2
      omega
    rw [wrap_i64 (by omega) (by omega)] at h1
    refine ⟨h1, by omega, by omega⟩
theorem crG_n {l S : List Wk} (h : OrdOk l S) : ∀ k, k ≤ S.length → ∀ c, (crG (S.take k)).n ≤ c ↔ 0 ≤ c ∧ ∀ j, j < k → eM S (S.getD j zeroWk).id ≤ c
  | 0, _, c => by simp [crG]
  | k + 1, hk, c => by
    have ih := crG_n h k (by omega) c
    have e1 : (crG (S.take (k + 1))).n = imax (crG (S.take k)).n (eM S (S.getD k zeroWk).id) := by
      rw [eM_top h.nd (k := k + 1) hk (ids_taken.2 ⟨k, by omega, by omega, rfl⟩)]
      unfold eM
      rw [crG_step S k (by omega)]
      rfl
    have e2 : imax (crG (S.take k)).n (eM S (S.getD k zeroWk).id) ≤ c ↔ (crG (S.take k)).n ≤ c ∧ eM S (S.getD k zeroWk).id ≤ c := by unfold imax; split <;> omega
    rw [e1, e2, ih]
    constructor
    · rintro ⟨⟨h1, h2⟩, h3⟩
      refine ⟨h1, fun j hj => ?_⟩
      by_cases hjk : j = k
      · rw [hjk]; exact h3
      · exact h2 j (by omega)
    · rintro ⟨h1, h2⟩
      exact ⟨⟨h1, fun j hj => h2 j (by omega)⟩, h2 k (by omega)⟩
theorem crG_top {l S : List Wk} (h : OrdOk l S) (c : Int) : (crG S).n ≤ c ↔ 0 ≤ c ∧ ∀ j, j < S.length → eM S (S.getD j zeroWk).id ≤ c := by
  have := crG_n h S.length (Nat.le_refl _) c
  rwa [List.take_length] at this
theorem findW_in {l : List Wk} {s : ByteArray} (h : s ∈ ids l) : ∃ i, findW l s = (i : Nat) ∧ i < l.length ∧ (l.getD i zeroWk).id = s := by
  rcases idxF_cases (isN s) l zeroWk with ⟨h1, _⟩ | ⟨i, h1, h2, h3⟩
  · have h1 : findW l s < 0 := h1
    rw [findW_lt, hasK_iff.2 h] at h1; cases h1
  · unfold isN at h3
    exact ⟨i, h1, h2, str_eq (beq_iff_eq.1 h3)⟩
theorem findW_at {l : List Wk} (hn : (ids l).Nodup) {i : Nat} (hi : i < l.length) : findW l (l.getD i zeroWk).id = i := by
  obtain ⟨j, h1, h2, h3⟩ := findW_in (ids_at hi)
  rw [h1, ids_inj hn h2 hi h3]
theorem edges_mem {l : List Wk} {n : Nat} {e : Ed} : e ∈ edgesUp l n ↔ ∃ i, i < n ∧ ∃ s ∈ (l.getD i zeroWk).af, e = ((findW l s).toNat, i) := by
  unfold edgesUp edgesAt
  rw [List.mem_flatMap]
  constructor
  · rintro ⟨i, hi, he⟩
    obtain ⟨s, hs, rfl⟩ := List.mem_map.1 he
    exact ⟨i, List.mem_range.1 hi, s, hs, rfl⟩
  · rintro ⟨i, hi, s, hs, rfl⟩
    exact ⟨i, List.mem_range.2 hi, List.mem_map.2 ⟨s, hs, rfl⟩⟩
def nmF (l : List Wk) (q : Wk) : Nat := (findW l q.id).toNat
theorem nm_at {l S : List Wk} (h : OrdOk l S) {q : Wk} (hq : q ∈ S) (hn : (ids l).Nodup) : nmF l q < l.length ∧ l.getD (nmF l q) zeroWk = q ∧ findW l q.id = nmF l q := by
  obtain ⟨i, hi, hie⟩ := List.getElem_of_mem (h.mem q hq)
  have e1 : l.getD i zeroWk = q := by simp [List.getD_eq_getElem?_getD, hi, hie]
  have e2 := findW_at hn hi
  rw [e1] at e2
  unfold nmF
  rw [e2, Int.toNat_natCast]
  exact ⟨hi, e1, rfl⟩
theorem nm_ord {l S : List Wk} (h : OrdOk l S) (hn : (ids l).Nodup) : DOrd l.length (edgesUp l l.length) (S.map (nmF l)) ∧ ∀ v, v < l.length → v ∈ S.map (nmF l) := by
  have hat : ∀ j, j < S.length → (S.map (nmF l)).getD j 0 = nmF l (S.getD j zeroWk) := fun j hj => by simp [List.getD_eq_getElem?_getD, hj]
  refine ⟨⟨?_, ?_, ?_⟩, ?_⟩
  · rw [List.Nodup, List.pairwise_iff_getElem]
    intro i j hi hj hij e
    rw [List.length_map] at hi hj
    have e1 := hat i hi
    have e2 := hat j hj
    rw [List.getD_eq_getElem?_getD, List.getElem?_eq_getElem (by rw [List.length_map]; exact hi), Option.getD_some] at e1
    rw [List.getD_eq_getElem?_getD, List.getElem?_eq_getElem (by rw [List.length_map]; exact hj), Option.getD_some] at e2
    rw [e1, e2] at e
    have h1 := (nm_at h (getD_mem zeroWk hi) hn).2.1
    rw [e, (nm_at h (getD_mem zeroWk hj) hn).2.1] at h1
    have := ids_inj h.nd hj hi (by rw [h1])
    omega
  · intro v hv
    obtain ⟨q, hq, rfl⟩ := List.mem_map.1 hv
    exact (nm_at h hq hn).1
  · intro j hj e he hej
    rw [List.length_map] at hj
    rw [hat j hj] at hej
    obtain ⟨i, hi, s, hs, rfl⟩ := edges_mem.1 he
    simp only at hej
    rw [hej, (nm_at h (getD_mem zeroWk hj) hn).2.1] at hs
    obtain ⟨i2, h1, h2, rfl⟩ := ids_taken.1 (h.bef j hj s hs)
    rw [← List.map_take]
    refine List.mem_map.2 ⟨S.getD i2 zeroWk, ?_, rfl⟩
    rw [List.mem_take_iff_getElem]
    exact ⟨i2, by omega, by simp [List.getD_eq_getElem?_getD, h2]⟩
  · intro v hv
    have := h.all _ (ids_at hv)
    obtain ⟨q, hq, hqe⟩ := List.mem_map.1 this
    refine List.mem_map.2 ⟨q, hq, ?_⟩
    unfold nmF
    rw [hqe, findW_at hn hv, Int.toNat_natCast]
theorem hrs_at {l : List Wk} {i : Nat} (h : i < l.length) : (hrsOf l).getD i 0 = (l.getD i zeroWk).hr := by simp [hrsOf, List.getD_eq_getElem?_getD, h]
theorem rng_hr {q : Wk} (h : rngW q = false) : 1 ≤ q.hr ∧ q.hr ≤ 1048576 ∧ 1 ≤ q.len ∧ q.len ≤ 524288 ∧ 1 ≤ q.wid ∧ q.wid ≤ 524288 := by
  unfold rngW at h
  simp only [Bool.or_eq_false_iff, Bool.not_eq_false', Bool.and_eq_true, decide_eq_true_eq] at h
  omega
theorem jobs_rng {l : List Wk} (h : jobsE l = 0) : ∀ q ∈ l, 1 ≤ q.hr ∧ q.hr ≤ 1048576 ∧ 1 ≤ q.len ∧ q.len ≤ 524288 ∧ 1 ≤ q.wid ∧ q.wid ≤ 524288 := by
  intro q hq
  obtain ⟨i, hi, hie⟩ := List.getElem_of_mem hq
  have := (badW_inv ((jobsE_inv h).2.1 i hi)).2.2
  have e1 : l.getD i zeroWk = q := by simp [List.getD_eq_getElem?_getD, hi, hie]
  rw [e1] at this
  exact rng_hr this
theorem jobs_hrok {l : List Wk} (h : jobsE l = 0) : HrOk (hrsOf l) := by
  intro i hi
  rw [hrsOf_len] at hi
  rw [hrs_at hi]
  have := jobs_rng h _ (getD_mem zeroWk hi)
  omega
theorem jobs_edok {l S : List Wk} (h : OrdOk l S) (hn : (ids l).Nodup) : EdOk l.length (edgesUp l l.length) := by
  intro m hm
  have he := getD_mem (0, 0) hm
  generalize (edgesUp l l.length).getD m (0, 0) = e at *
  obtain ⟨hD, hA⟩ := nm_ord h hn
  have h2 : e.2 < l.length := by
    obtain ⟨i, hi, s, hs, rfl⟩ := edges_mem.1 he
    exact hi
  obtain ⟨j, hj, hje⟩ := List.getElem_of_mem (hA _ h2)
  have hgd : (S.map (nmF l)).getD j 0 = e.2 := by simp only [List.getD_eq_getElem?_getD, List.getElem?_eq_getElem hj, Option.getD_some, hje]
  have hb := hD.bef j hj e he hgd.symm
  refine ⟨hD.lt _ (List.mem_of_mem_take hb), h2, fun e12 => ?_⟩
  have hnd := (List.take_sublist (j + 1) (S.map (nmF l))).nodup hD.nd
  rw [List.take_add_one, List.getElem?_eq_getElem hj, hje, List.nodup_append] at hnd
  exact hnd.2.2 _ hb e.2 (by simp) e12
theorem lenF_le (H st : List Int) (c : Int) : ∀ m, lenF H st m ≤ c ↔ 0 ≤ c ∧ ∀ i, i < m → IntKind.i64.wrap (st.getD i 0 + H.getD i 0) ≤ c := by
  intro m
  unfold lenF lenS
  rw [fold_le (fun i => IntKind.i64.wrap (st.getD i 0 + H.getD i 0))]
  simp
/-- Critical is the longest path. -/
theorem crit_same {l : List Wk} (hE : (ordE l).2 = 0) : ∃ D, dordE l.length (edgesUp l l.length) = (D, 0) ∧ D.length < 1000000 ∧ (∀ i, i < D.length → D.getD i 0 < l.length) ∧
    lenF (hrsOf l) (earE (hrsOf l) (edgesUp l l.length) D) l.length = critE l := by
  have hj := ordE_jobs hE
  have h := ordE_ok hE
  have hn : (ids l).Nodup := ids_nodup hj
  obtain ⟨hD0, hA0⟩ := nm_ord h hn
  obtain ⟨D, h1, h2, h3⟩ := dordE_run _ hD0 hA0
  have h128 := (jobsE_inv hj).1
  refine ⟨D, h1, ?_, fun i hi => h2.lt _ (getD_mem 0 hi), ?_⟩
  · have := nodup_lt_len h2.nd h2.lt; omega
  unfold critE
  rw [if_neg (by simp [hE])]
  generalize (ordE l).1 = S at *
  have hlen := h.len hn
  have hval := eM_val h (fun q hq => by have := jobs_rng hj q (h.mem q hq); omega) (by omega)
  have h2 : DOrd (hrsOf l).length (edgesUp l l.length) D := by rw [hrsOf_len]; exact h2
  have hst : ∀ k, k < S.length → (earE (hrsOf l) (edgesUp l l.length) D).getD (nmF l (S.getD k zeroWk)) 0 + (hrsOf l).getD (nmF l (S.getD k zeroWk)) 0 = eM S (S.getD k zeroWk).id := by
    intro k
    induction k using Nat.strongRecOn with
    | _ k ih =>
      intro hk
      obtain ⟨n1, n2, n3⟩ := nm_at h (getD_mem zeroWk hk) hn
      rw [earE_fix h2 (h3 _ n1), hrs_at n1, n2, (hval k hk).1]
      congr 1
      have hw : ∀ j, j < k → j < S.length → IntKind.i64.wrap ((earE (hrsOf l) (edgesUp l l.length) D).getD (nmF l (S.getD j zeroWk)) 0 + (hrsOf l).getD (nmF l (S.getD j zeroWk)) 0) = eM S (S.getD j zeroWk).id := by
        intro j hjk hjs
        have hv := (hval j hjs).2
        rw [ih j hjk hjs, wrap_i64 (by omega) (by omega)]
      refine le_ext fun c => ?_
      unfold foldE
      rw [frF_le, fold_le]
      constructor
      · rintro ⟨c1, c2⟩
        refine ⟨c1, fun s hs => ?_⟩
        obtain ⟨j, j1, j2, rfl⟩ := ids_taken.1 (h.bef k hk s hs)
        rw [← hw j j1 j2]
        exact c2 (nmF l (S.getD j zeroWk), nmF l (S.getD k zeroWk)) (inE_mem.2 ⟨edges_mem.2 ⟨_, n1, _, by rw [n2]; exact hs, rfl⟩, rfl⟩)
      · rintro ⟨c1, c2⟩
        refine ⟨c1, fun e he => ?_⟩
        obtain ⟨e1, e2⟩ := inE_mem.1 he
        obtain ⟨i, hi, s, hs, rfl⟩ := edges_mem.1 e1
        simp only at e2
        rw [e2, n2] at hs
        obtain ⟨j, j1, j2, rfl⟩ := ids_taken.1 (h.bef k hk s hs)
        have := hw j j1 j2
        unfold nmF at this
        simp only
        rw [this]
        exact c2 _ hs
  refine le_ext fun c => ?_
  rw [lenF_le, crG_top h]
  have hw : ∀ j, j < S.length → IntKind.i64.wrap ((earE (hrsOf l) (edgesUp l l.length) D).getD (nmF l (S.getD j zeroWk)) 0 + (hrsOf l).getD (nmF l (S.getD j zeroWk)) 0) = eM S (S.getD j zeroWk).id := by
    intro j hjs
    have hv := (hval j hjs).2
    rw [hst j hjs, wrap_i64 (by omega) (by omega)]
  constructor
  · rintro ⟨c1, c2⟩
    refine ⟨c1, fun j hjs => ?_⟩
    rw [← hw j hjs]
    exact c2 _ (nm_at h (getD_mem zeroWk hjs) hn).1
  · rintro ⟨c1, c2⟩
    refine ⟨c1, fun i hi => ?_⟩
    obtain ⟨j, hjs, hje⟩ := List.getElem_of_mem (hA0 i hi)
    rw [List.length_map] at hjs
    rw [List.getElem_map] at hje
    have e1 : S[j] = S.getD j zeroWk := by simp [List.getD_eq_getElem?_getD, hjs]
    rw [e1] at hje
    rw [← hje, hw j hjs]
    exact c2 j hjs
end Go.Proofs
namespace Go.Proofs
open Go Go.Ab
set_option maxHeartbeats 4000000
set_option maxRecDepth 100000
def insI (x : Int) : List Int → List Int
  | [] => [x]
  | y :: l => if x ≤ y then x :: y :: l else y :: insI x l
def isortI : List Int → List Int
  | [] => []
  | x :: l => insI x (isortI l)
theorem insI_perm (x : Int) : ∀ l, (insI x l).Perm (x :: l)
  | [] => .refl _
  | y :: l => by
    unfold insI
    split
    · exact .refl _
    · exact ((insI_perm x l).cons y).trans (.swap x y l)
theorem isortI_perm : ∀ l, (isortI l).Perm l
  | [] => .refl _
  | x :: l => (insI_perm x _).trans ((isortI_perm l).cons x)
theorem insI_asc (x : Int) : ∀ l : List Int, l.Pairwise (· ≤ ·) → (insI x l).Pairwise (· ≤ ·)
  | [], _ => by simp [insI]
  | y :: l, h => by
    rw [List.pairwise_cons] at h
    unfold insI
    split
    · rename_i hxy
      refine List.pairwise_cons.2 ⟨fun z hz => ?_, List.pairwise_cons.2 h⟩
      rcases List.mem_cons.1 hz with rfl | hz
      · exact hxy
      · exact Int.le_trans hxy (h.1 z hz)
    · rename_i hxy
      refine List.pairwise_cons.2 ⟨fun z hz => ?_, insI_asc x l h.2⟩
      rcases List.mem_cons.1 ((insI_perm x l).mem_iff.1 hz) with rfl | hz
      · omega
      · exact h.1 z hz
theorem isortI_asc : ∀ l, (isortI l).Pairwise (· ≤ ·)
  | [] => .nil
  | x :: l => insI_asc x _ (isortI_asc l)
theorem asc_perm_eq : ∀ {l m : List Int}, l.Perm m → l.Pairwise (· ≤ ·) → m.Pairwise (· ≤ ·) → l = m
  | [], m, h, _, _ => by rw [List.nil_perm.1 h]
  | a :: l, [], h, _, _ => by simp at h
  | a :: l, b :: m, h, hl, hm => by
    have hl' := List.pairwise_cons.1 hl
    have hm' := List.pairwise_cons.1 hm
    have hab : a = b := by
      rcases List.mem_cons.1 (h.mem_iff.1 (List.mem_cons.2 (.inl rfl))) with e | e
      · exact e
      · rcases List.mem_cons.1 (h.mem_iff.2 (List.mem_cons.2 (.inl rfl))) with e' | e'
        · exact e'.symm
        · have := hl'.1 b e'; have := hm'.1 a e; omega
    subst hab
    rw [asc_perm_eq ((List.perm_cons a).1 h) hl'.2 hm'.2]
theorem sortI_isort (l : List Int) : sortI l = isortI l :=
  asc_perm_eq ((List.mergeSort_perm l _).trans (isortI_perm l).symm) (sortZ_asc l) (isortI_asc l)
def spotE' (bs : List By) (l : List Sty) (x : Sty) : Sty × Bool := match scanE (placeB bs l x) (Lib.compact (isortI (lowL l x))) (Lib.compact (isortI (leftL l x))) with
  | some (X, Y) => (x.at_ X Y, true)
  | none => (zeroSty, false)
theorem spotE_eq (bs : List By) (l : List Sty) (x : Sty) : spotE bs l x = spotE' bs l x := by
  unfold spotE spotE'
  rw [sortI_isort, sortI_isort]
  all_goals (generalize scanE (placeB bs l x) (Lib.compact (isortI (lowL l x))) (Lib.compact (isortI (leftL l x))) = o; cases o <;> rfl)
def tryB' (bs : List By) (l : List Sty) (x : Sty) (h t : Int) (q : By) : Option Sty := if (spotE' bs l (x.when q.nm t (IntKind.i64.wrap (t + h)))).2 then some (spotE' bs l (x.when q.nm t (IntKind.i64.wrap (t + h)))).1 else none
theorem tryB_eq (bs : List By) (l : List Sty) (x : Sty) (h t : Int) : tryB bs l x h t = tryB' bs l x h t := by
  funext q
  unfold tryB tryB'
  rw [spotE_eq]
def fitS' (bs : List By) (l : List Sty) (x : Sty) (h : Int) : Option Sty := (Lib.compact (isortI (endsL l x.a))).findSome? fun t => bs.findSome? (tryB' bs l x h t)
theorem fitS_eq (bs : List By) (l : List Sty) (x : Sty) (h : Int) : fitS bs l x h = fitS' bs l x h := by
  unfold fitS fitS' startsZ
  rw [sortI_isort]
  congr 1
  funext t
  rw [tryB_eq]
theorem fitE_some {bs : List By} {l : List Sty} {x y : Sty} {h : Int} (h1 : checkE bs l = 0) (h2 : idB x.item = true) (h3 : fitR x h = false) (h4 : decide ((128 : Int) ≤ l.length) = false) (h5 : fitS' bs l x h = some y) : fitE bs l x h = (y, 0) := by
  unfold fitE
  rw [h1, h2, h3, h4, fitS_eq, h5]; rfl
attribute [local irreducible] Awp aops aopsL Go.Ab.Pure PureOwn
end Go.Proofs
namespace Go.Proofs
open Go Go.Ab
set_option maxHeartbeats 8000000
set_option maxRecDepth 100000
attribute [local irreducible] Awp aops aopsL Go.Ab.Pure PureOwn
structure Pl where
  bays : List By
  stays : List Sty
def Pl.av (p : Pl) : AV := .agg [.sl (bys p.bays), .sl (stys p.stays)]
attribute [go_sem] Pl.av
end Go.Proofs
namespace Go.Proofs
open Go Go.Ab
def apart (p q : Sty) : Prop := overB p q = false
end Go.Proofs
namespace Go.Proofs
open Go Go.Ab
set_option maxHeartbeats 1000000
def its (P : List Sty) : List ByteArray := P.map (·.item)
/-- What holds of the jobs' order. -/
theorem ord_all {l : List Wk} (hE : (ordE l).2 = 0) : jobsE l = 0 ∧ OrdOk l (ordE l).1 ∧ (ids l).Nodup ∧ (ordE l).1.length = l.length :=
  ⟨ordE_jobs hE, ordE_ok hE, ids_nodup (ordE_jobs hE), (ordE_ok hE).len (ids_nodup (ordE_jobs hE))⟩
def rplanG (bs : List By) : List Wk → List Sty → List Sty × Int
  | [], out => (out, 0)
  | q :: S, out => if (fitE bs out (wantS q (untilE q.af out)) q.hr).2 ≠ 0 then ([], (fitE bs out (wantS q (untilE q.af out)) q.hr).2) else rplanG bs S (out ++ [(fitE bs out (wantS q (untilE q.af out)) q.hr).1])
end Go.Proofs
namespace Go.Proofs
open Go Go.Ab
set_option maxHeartbeats 8000000
set_option maxRecDepth 100000
attribute [local irreducible] Awp aops aopsL Go.Ab.Pure PureOwn PureTwoM
theorem pureV_nilc {st : Nat → Prop} {w : World} {es es' : List (List AV)} {c : Value} (hl : es'.length = es.length) (hz : ∀ i : Nat, i < es.length → (es.getD i []).length = (es'.getD i []).length)
    (hc : ∀ i j : Nat, i < es.length → j < (es.getD i []).length → av (es.getD i []) j = av (es'.getD i []) j ∨ (av (es'.getD i []) j = .nils ∧ av (es.getD i []) j = .sl [])) (h : PureV st w (.sl es') c) : PureV st w (.sl es) c := by
  cases h with
  | slE a cap hcap =>
    have : es = [] := List.eq_nil_of_length_eq_zero (by simpa using hl.symm)
    subst this
    exact .slE a cap hcap
  | slC _ g off cap sz f h1 h2 h3 h4 h5 h6 h7 h8 =>
    have hes : ∀ x ∈ es, x.length = sz := fun x hx => by
      obtain ⟨i, hi, rfl⟩ := List.getElem_of_mem hx
      have e1 := hz i hi
      have e2 : es.getD i [] = es[i] := by simp [List.getD_eq_getElem?_getD, hi]
      have e3 : es'.getD i [] = es'[i]'(by omega) := by simp [List.getD_eq_getElem?_getD, show i < es'.length by omega]
      rw [e2, e3] at e1
      rw [e1]
      exact h5 _ (List.getElem_mem _)
    rw [hl]
    refine .slC es g off cap sz f (by rw [← hl]; exact h1) h2 h3 (fun e => h4 (List.eq_nil_of_length_eq_zero (by rw [hl, e]; rfl))) hes h6 (fun i j hi hj => h7 i j (by rw [hl]; exact hi) hj) fun i j hi hj => ?_
    have hjl : j < (es.getD i []).length := by
      have e2 : es.getD i [] = es[i] := by simp [List.getD_eq_getElem?_getD, hi]
      rw [e2, hes _ (List.getElem_mem _)]
      exact hj
    have h9 := h8 i j (by rw [hl]; exact hi) hj
    rcases hc i j hi hjl with k | ⟨k1, k2⟩
    · rw [k]; exact h9
    · rw [k1] at h9
      rw [k2]
      generalize f i j = u at h9 ⊢
      cases h9 with
      | nils a => exact .slE a 0 (Nat.zero_le _)
theorem pure_nilc {P : Program} {f : Nat} {es es' : List (List AV)} {r : List AV} {res : AV} (h : Go.Ab.Pure P f (.sl es :: r) res) (hl : es'.length = es.length) (hz : ∀ i : Nat, i < es.length → (es.getD i []).length = (es'.getD i []).length)
    (hc : ∀ i j : Nat, i < es.length → j < (es.getD i []).length → av (es.getD i []) j = av (es'.getD i []) j ∨ (av (es'.getD i []) j = .nils ∧ av (es.getD i []) j = .sl [])) : Go.Ab.Pure P f (.sl es' :: r) res := by
  unfold Go.Ab.Pure at h ⊢
  refine ⟨h.1, fun ok w cs hv => h.2 ok w cs ⟨hv.1, fun j hj => ?_⟩⟩
  have := hv.2 j hj
  match j, hj with
  | 0, _ => exact pureV_nilc hl hz hc this
  | j + 1, _ => exact this
def eBays : List By := [⟨⟨⟨[72]⟩⟩, 20, 10⟩]
def eJobs : List Wk := [⟨⟨⟨[98]⟩⟩, 3, 10, 10, []⟩, ⟨⟨⟨[97]⟩⟩, 5, 12, 10, [⟨⟨[98]⟩⟩]⟩, ⟨⟨⟨[99]⟩⟩, 2, 10, 10, []⟩]
def ePlan : List Sty := [⟨⟨⟨[98]⟩⟩, ⟨⟨[72]⟩⟩, 0, 0, 10, 10, 0, 3⟩, ⟨⟨⟨[97]⟩⟩, ⟨⟨[72]⟩⟩, 0, 0, 12, 10, 3, 8⟩, ⟨⟨⟨[99]⟩⟩, ⟨⟨[72]⟩⟩, 10, 0, 10, 10, 0, 2⟩]
theorem eOrd : ordE eJobs = (eJobs, 0) := by kernel_rfl
theorem eCrit : critE eJobs = 8 := by kernel_rfl
theorem eSpan : spanE ePlan = 8 := by kernel_rfl
theorem eChk1 : pchkE eJobs eBays ePlan = 0 := by kernel_rfl
theorem eChk2 : pchkE eJobs eBays (ePlan.take 2) = 17 := by kernel_rfl
theorem planG_cons {bs : List By} {q : Wk} {S : List Wk} {p : Pn} {x : Sty} (h : fitE bs p.out (wantS q (frstM p.K p.V q.af)) q.hr = (x, 0)) : planG bs (q :: S) p = planG bs S ⟨pK p.K q.id, pV p.K p.V q.id x.b, p.out ++ [x]⟩ := by
  have e : planG bs (q :: S) p = if (fitE bs p.out (wantS q (frstM p.K p.V q.af)) q.hr).2 ≠ 0 then ([], 18)
    else planG bs S ⟨pK p.K q.id, pV p.K p.V q.id (fitE bs p.out (wantS q (frstM p.K p.V q.af)) q.hr).1.b, p.out ++ [(fitE bs p.out (wantS q (frstM p.K p.V q.af)) q.hr).1]⟩ := rfl
  rw [e, h, if_neg (by simp)]
def eS (i : Nat) : Sty := ePlan.getD i zeroSty
def eJ (i : Nat) : Wk := eJobs.getD i zeroWk
def eP0 : Pn := ⟨[], [], []⟩
def ePn (p : Pn) (q : Wk) (x : Sty) : Pn := ⟨pK p.K q.id, pV p.K p.V q.id x.b, p.out ++ [x]⟩
def eP1 : Pn := ePn eP0 (eJ 0) (eS 0)
def eP2 : Pn := ePn eP1 (eJ 1) (eS 1)
theorem eF0 : fitE eBays eP0.out (wantS (eJ 0) (frstM eP0.K eP0.V (eJ 0).af)) (eJ 0).hr = (eS 0, 0) := fitE_some (by kernel_rfl) (by kernel_rfl) (by kernel_rfl) (by kernel_rfl) (by kernel_rfl)
theorem eF1 : fitE eBays eP1.out (wantS (eJ 1) (frstM eP1.K eP1.V (eJ 1).af)) (eJ 1).hr = (eS 1, 0) := fitE_some (by kernel_rfl) (by kernel_rfl) (by kernel_rfl) (by kernel_rfl) (by kernel_rfl)
theorem eF2 : fitE eBays eP2.out (wantS (eJ 2) (frstM eP2.K eP2.V (eJ 2).af)) (eJ 2).hr = (eS 2, 0) := fitE_some (by kernel_rfl) (by kernel_rfl) (by kernel_rfl) (by kernel_rfl) (by kernel_rfl)
theorem ePl : planE eJobs eBays = (ePlan, 0) := by
  unfold planE
  rw [eOrd, if_neg (by simp), if_neg (fun hne => hne (show checkE eBays [] = 0 by kernel_rfl))]
  show planG eBays [eJ 0, eJ 1, eJ 2] eP0 = _
  rw [planG_cons eF0]
  show planG eBays [eJ 1, eJ 2] eP1 = _
  rw [planG_cons eF1]
  show planG eBays [eJ 2] eP2 = _
  rw [planG_cons eF2]
  rfl
theorem alive_ok : Pure Tryz.prog 10 [] (.v (.bool true)) := by
  have ha : ∀ q ∈ eJobs, q.af.length < 1000000 := by
    intro q hq
    simp only [eJobs, List.mem_cons, List.not_mem_nil, or_false] at hq
    rcases hq with rfl | rfl | rfl <;> decide
  have a1 : Pure Tryz.prog 11 [.sl [[.v (.string ⟨⟨[98]⟩⟩), .v (.int .i64 3), .v (.int .i64 10), .v (.int .i64 10), .nils], [.v (.string ⟨⟨[97]⟩⟩), .v (.int .i64 5), .v (.int .i64 12), .v (.int .i64 10), .sl [[.v (.string ⟨⟨[98]⟩⟩)]]], [.v (.string ⟨⟨[99]⟩⟩), .v (.int .i64 2), .v (.int .i64 10), .v (.int .i64 10), .nils]]] (.tup [.sl [[.v (.string ⟨⟨[98]⟩⟩)], [.v (.string ⟨⟨[97]⟩⟩)], [.v (.string ⟨⟨[99]⟩⟩)]], .v (.int .i64 0)]) := by
    have h := order_ok eJobs (by decide) ha
    rw [eOrd] at h
    exact pure_nilc h rfl (fun i hi => by match i, hi with
      | 0, _ => rfl
      | 1, _ => rfl
      | 2, _ => rfl) (fun i j hi hj => by match i, hi, j, hj with
      | 0, _, 0, _ => exact .inl rfl
      | 0, _, 1, _ => exact .inl rfl
      | 0, _, 2, _ => exact .inl rfl
      | 0, _, 3, _ => exact .inl rfl
      | 0, _, 4, _ => exact .inr ⟨rfl, rfl⟩
      | 1, _, 0, _ => exact .inl rfl
      | 1, _, 1, _ => exact .inl rfl
      | 1, _, 2, _ => exact .inl rfl
      | 1, _, 3, _ => exact .inl rfl
      | 1, _, 4, _ => exact .inl rfl
      | 2, _, 0, _ => exact .inl rfl
      | 2, _, 1, _ => exact .inl rfl
      | 2, _, 2, _ => exact .inl rfl
      | 2, _, 3, _ => exact .inl rfl
      | 2, _, 4, _ => exact .inr ⟨rfl, rfl⟩)
  have a2 : Pure Tryz.prog 17 [.sl [[.v (.string ⟨⟨[98]⟩⟩), .v (.int .i64 3), .v (.int .i64 10), .v (.int .i64 10), .nils], [.v (.string ⟨⟨[97]⟩⟩), .v (.int .i64 5), .v (.int .i64 12), .v (.int .i64 10), .sl [[.v (.string ⟨⟨[98]⟩⟩)]]], [.v (.string ⟨⟨[99]⟩⟩), .v (.int .i64 2), .v (.int .i64 10), .v (.int .i64 10), .nils]], .sl [[.v (.string ⟨⟨[72]⟩⟩), .v (.int .i64 20), .v (.int .i64 10)]]] (.tup [.sl [[.v (.string ⟨⟨[98]⟩⟩), .v (.string ⟨⟨[72]⟩⟩), .v (.int .i64 0), .v (.int .i64 0), .v (.int .i64 10), .v (.int .i64 10), .v (.int .i64 0), .v (.int .i64 3)], [.v (.string ⟨⟨[97]⟩⟩), .v (.string ⟨⟨[72]⟩⟩), .v (.int .i64 0), .v (.int .i64 0), .v (.int .i64 12), .v (.int .i64 10), .v (.int .i64 3), .v (.int .i64 8)], [.v (.string ⟨⟨[99]⟩⟩), .v (.string ⟨⟨[72]⟩⟩), .v (.int .i64 10), .v (.int .i64 0), .v (.int .i64 10), .v (.int .i64 10), .v (.int .i64 0), .v (.int .i64 2)]], .v (.int .i64 0)]) := by
    have h := plan_ok eJobs eBays (by decide) (by decide) ha
    rw [ePl] at h
    exact pure_nilc h rfl (fun i hi => by match i, hi with
      | 0, _ => rfl
      | 1, _ => rfl
      | 2, _ => rfl) (fun i j hi hj => by match i, hi, j, hj with
      | 0, _, 0, _ => exact .inl rfl
      | 0, _, 1, _ => exact .inl rfl
      | 0, _, 2, _ => exact .inl rfl
      | 0, _, 3, _ => exact .inl rfl
      | 0, _, 4, _ => exact .inr ⟨rfl, rfl⟩
      | 1, _, 0, _ => exact .inl rfl
      | 1, _, 1, _ => exact .inl rfl
      | 1, _, 2, _ => exact .inl rfl
      | 1, _, 3, _ => exact .inl rfl
      | 1, _, 4, _ => exact .inl rfl
      | 2, _, 0, _ => exact .inl rfl
      | 2, _, 1, _ => exact .inl rfl
      | 2, _, 2, _ => exact .inl rfl
      | 2, _, 3, _ => exact .inl rfl
      | 2, _, 4, _ => exact .inr ⟨rfl, rfl⟩)
  have a3 : Pure Tryz.prog 13 [.sl [[.v (.string ⟨⟨[98]⟩⟩), .v (.int .i64 3), .v (.int .i64 10), .v (.int .i64 10), .nils], [.v (.string ⟨⟨[97]⟩⟩), .v (.int .i64 5), .v (.int .i64 12), .v (.int .i64 10), .sl [[.v (.string ⟨⟨[98]⟩⟩)]]], [.v (.string ⟨⟨[99]⟩⟩), .v (.int .i64 2), .v (.int .i64 10), .v (.int .i64 10), .nils]]] (.tup [.v (.int .i64 8), .v (.int .i64 0)]) := by
    have h := critical_ok eJobs (by decide) ha
    rw [eOrd, eCrit] at h
    exact pure_nilc h rfl (fun i hi => by match i, hi with
      | 0, _ => rfl
      | 1, _ => rfl
      | 2, _ => rfl) (fun i j hi hj => by match i, hi, j, hj with
      | 0, _, 0, _ => exact .inl rfl
      | 0, _, 1, _ => exact .inl rfl
      | 0, _, 2, _ => exact .inl rfl
      | 0, _, 3, _ => exact .inl rfl
      | 0, _, 4, _ => exact .inr ⟨rfl, rfl⟩
      | 1, _, 0, _ => exact .inl rfl
      | 1, _, 1, _ => exact .inl rfl
      | 1, _, 2, _ => exact .inl rfl
      | 1, _, 3, _ => exact .inl rfl
      | 1, _, 4, _ => exact .inl rfl
      | 2, _, 0, _ => exact .inl rfl
      | 2, _, 1, _ => exact .inl rfl
      | 2, _, 2, _ => exact .inl rfl
      | 2, _, 3, _ => exact .inl rfl
      | 2, _, 4, _ => exact .inr ⟨rfl, rfl⟩)
  have a4 : Pure Tryz.prog 20 [.sl [[.v (.string ⟨⟨[98]⟩⟩), .v (.int .i64 3), .v (.int .i64 10), .v (.int .i64 10), .nils], [.v (.string ⟨⟨[97]⟩⟩), .v (.int .i64 5), .v (.int .i64 12), .v (.int .i64 10), .sl [[.v (.string ⟨⟨[98]⟩⟩)]]], [.v (.string ⟨⟨[99]⟩⟩), .v (.int .i64 2), .v (.int .i64 10), .v (.int .i64 10), .nils]], .sl [[.v (.string ⟨⟨[72]⟩⟩), .v (.int .i64 20), .v (.int .i64 10)]], .sl [[.v (.string ⟨⟨[98]⟩⟩), .v (.string ⟨⟨[72]⟩⟩), .v (.int .i64 0), .v (.int .i64 0), .v (.int .i64 10), .v (.int .i64 10), .v (.int .i64 0), .v (.int .i64 3)], [.v (.string ⟨⟨[97]⟩⟩), .v (.string ⟨⟨[72]⟩⟩), .v (.int .i64 0), .v (.int .i64 0), .v (.int .i64 12), .v (.int .i64 10), .v (.int .i64 3), .v (.int .i64 8)], [.v (.string ⟨⟨[99]⟩⟩), .v (.string ⟨⟨[72]⟩⟩), .v (.int .i64 10), .v (.int .i64 0), .v (.int .i64 10), .v (.int .i64 10), .v (.int .i64 0), .v (.int .i64 2)]]] (.v (.int .i64 0)) := by
    have h := pchk_ok eJobs eBays ePlan (by decide) (by decide) (by decide) ha
    rw [eChk1] at h
    exact pure_nilc h rfl (fun i hi => by match i, hi with
      | 0, _ => rfl
      | 1, _ => rfl
      | 2, _ => rfl) (fun i j hi hj => by match i, hi, j, hj with
      | 0, _, 0, _ => exact .inl rfl
      | 0, _, 1, _ => exact .inl rfl
      | 0, _, 2, _ => exact .inl rfl
      | 0, _, 3, _ => exact .inl rfl
      | 0, _, 4, _ => exact .inr ⟨rfl, rfl⟩
      | 1, _, 0, _ => exact .inl rfl
      | 1, _, 1, _ => exact .inl rfl
      | 1, _, 2, _ => exact .inl rfl
      | 1, _, 3, _ => exact .inl rfl
      | 1, _, 4, _ => exact .inl rfl
      | 2, _, 0, _ => exact .inl rfl
      | 2, _, 1, _ => exact .inl rfl
      | 2, _, 2, _ => exact .inl rfl
      | 2, _, 3, _ => exact .inl rfl
      | 2, _, 4, _ => exact .inr ⟨rfl, rfl⟩)
  have a5 : Pure Tryz.prog 20 [.sl [[.v (.string ⟨⟨[98]⟩⟩), .v (.int .i64 3), .v (.int .i64 10), .v (.int .i64 10), .nils], [.v (.string ⟨⟨[97]⟩⟩), .v (.int .i64 5), .v (.int .i64 12), .v (.int .i64 10), .sl [[.v (.string ⟨⟨[98]⟩⟩)]]], [.v (.string ⟨⟨[99]⟩⟩), .v (.int .i64 2), .v (.int .i64 10), .v (.int .i64 10), .nils]], .sl [[.v (.string ⟨⟨[72]⟩⟩), .v (.int .i64 20), .v (.int .i64 10)]], .sl [[.v (.string ⟨⟨[98]⟩⟩), .v (.string ⟨⟨[72]⟩⟩), .v (.int .i64 0), .v (.int .i64 0), .v (.int .i64 10), .v (.int .i64 10), .v (.int .i64 0), .v (.int .i64 3)], [.v (.string ⟨⟨[97]⟩⟩), .v (.string ⟨⟨[72]⟩⟩), .v (.int .i64 0), .v (.int .i64 0), .v (.int .i64 12), .v (.int .i64 10), .v (.int .i64 3), .v (.int .i64 8)]]] (.v (.int .i64 17)) := by
    have h := pchk_ok eJobs eBays (ePlan.take 2) (by decide) (by decide) (by decide) ha
    rw [eChk2] at h
    exact pure_nilc h rfl (fun i hi => by match i, hi with
      | 0, _ => rfl
      | 1, _ => rfl
      | 2, _ => rfl) (fun i j hi hj => by match i, hi, j, hj with
      | 0, _, 0, _ => exact .inl rfl
      | 0, _, 1, _ => exact .inl rfl
      | 0, _, 2, _ => exact .inl rfl
      | 0, _, 3, _ => exact .inl rfl
      | 0, _, 4, _ => exact .inr ⟨rfl, rfl⟩
      | 1, _, 0, _ => exact .inl rfl
      | 1, _, 1, _ => exact .inl rfl
      | 1, _, 2, _ => exact .inl rfl
      | 1, _, 3, _ => exact .inl rfl
      | 1, _, 4, _ => exact .inl rfl
      | 2, _, 0, _ => exact .inl rfl
      | 2, _, 1, _ => exact .inl rfl
      | 2, _, 2, _ => exact .inl rfl
      | 2, _, 3, _ => exact .inl rfl
      | 2, _, 4, _ => exact .inr ⟨rfl, rfl⟩)
  have a6 : Pure Tryz.prog 15 [.sl [[.v (.string ⟨⟨[98]⟩⟩)], [.v (.string ⟨⟨[97]⟩⟩)], [.v (.string ⟨⟨[99]⟩⟩)]], .sl [[.v (.string ⟨⟨[98]⟩⟩)], [.v (.string ⟨⟨[97]⟩⟩)], [.v (.string ⟨⟨[99]⟩⟩)]]] (.v (.bool true)) := same04_ok (ids eJobs) (by decide)
  have a7 : Pure Tryz.prog 19 [.sl [[.v (.string ⟨⟨[98]⟩⟩), .v (.string ⟨⟨[72]⟩⟩), .v (.int .i64 0), .v (.int .i64 0), .v (.int .i64 10), .v (.int .i64 10), .v (.int .i64 0), .v (.int .i64 3)], [.v (.string ⟨⟨[97]⟩⟩), .v (.string ⟨⟨[72]⟩⟩), .v (.int .i64 0), .v (.int .i64 0), .v (.int .i64 12), .v (.int .i64 10), .v (.int .i64 3), .v (.int .i64 8)], [.v (.string ⟨⟨[99]⟩⟩), .v (.string ⟨⟨[72]⟩⟩), .v (.int .i64 10), .v (.int .i64 0), .v (.int .i64 10), .v (.int .i64 10), .v (.int .i64 0), .v (.int .i64 2)]], .sl [[.v (.string ⟨⟨[98]⟩⟩), .v (.string ⟨⟨[72]⟩⟩), .v (.int .i64 0), .v (.int .i64 0), .v (.int .i64 10), .v (.int .i64 10), .v (.int .i64 0), .v (.int .i64 3)], [.v (.string ⟨⟨[97]⟩⟩), .v (.string ⟨⟨[72]⟩⟩), .v (.int .i64 0), .v (.int .i64 0), .v (.int .i64 12), .v (.int .i64 10), .v (.int .i64 3), .v (.int .i64 8)], [.v (.string ⟨⟨[99]⟩⟩), .v (.string ⟨⟨[72]⟩⟩), .v (.int .i64 10), .v (.int .i64 0), .v (.int .i64 10), .v (.int .i64 10), .v (.int .i64 0), .v (.int .i64 2)]]] (.v (.bool true)) := same42_ok ePlan (by decide)
  have a8 : Pure Tryz.prog 22 [.sl [[.v (.string ⟨⟨[98]⟩⟩), .v (.string ⟨⟨[72]⟩⟩), .v (.int .i64 0), .v (.int .i64 0), .v (.int .i64 10), .v (.int .i64 10), .v (.int .i64 0), .v (.int .i64 3)], [.v (.string ⟨⟨[97]⟩⟩), .v (.string ⟨⟨[72]⟩⟩), .v (.int .i64 0), .v (.int .i64 0), .v (.int .i64 12), .v (.int .i64 10), .v (.int .i64 3), .v (.int .i64 8)], [.v (.string ⟨⟨[99]⟩⟩), .v (.string ⟨⟨[72]⟩⟩), .v (.int .i64 10), .v (.int .i64 0), .v (.int .i64 10), .v (.int .i64 10), .v (.int .i64 0), .v (.int .i64 2)]]] (.v (.int .i64 8)) := by
    have h := span_ok ePlan (by decide)
    rw [eSpan] at h
    exact h
  refine fn_pure Tryz.F10 (Nat.le_of_ble_eq_true rfl) ?_; unfold Tryz.ac10 AR AM AO
  repeat' (first
 | (apply Awp.sreg; (case hn => (simp only [List.length_cons, List.length_nil, Nat.reduceAdd] <;> rfl)))
 | (refine st_nil ?_)
 | (apply st_full (d := some 11); (case hr => (simp only [go_sem, *] <;> rfl)); (case hn => (simp; done)); (case hp => (first | (simp; done))))
 | (apply st_full (d := some 13); (case hr => (simp only [go_sem, *] <;> rfl)); (case hn => (simp; done)); (case hp => (first | (simp; done))))
 | (apply st_full (d := some 16); (case hr => (simp only [go_sem, *] <;> rfl)); (case hn => (simp; done)); (case hp => (first | (simp; done))))
 | (apply st_full (d := some 42); (case hr => (simp only [go_sem, *] <;> rfl)); (case hn => (simp; done)); (case hp => (first | (simp; done))))
 | (apply st_a; (case hc => rfl); (case he => (simp only [go_sem, *] <;> rfl)); (case hu => (simp only [updL_nil, updL_cons] <;> rfl)); (case hp => first | trivial | (simp; done)))
 | (apply st_m; (case hc => rfl); (case hg => (simp only [go_sem, *] <;> rfl)); (case he => (intro hQz; (try simp only [wantB_t, wantB_f, Bool.and_eq_true, Bool.not_eq_true', Bool.not_true, Bool.not_false, and_true, true_and] at hQz); simp only [go_sem, *] <;> rfl)); (case hp => (intro hQz; (try simp only [wantB_t, wantB_f, Bool.and_eq_true, Bool.not_eq_true', Bool.or_eq_false_iff, decide_eq_true_eq, decide_eq_false_iff_not, beq_iff_eq, beq_eq_false_iff_ne, bne_iff_ne, bne_eq_false_iff_eq, Int.not_lt, Int.not_le, Int.ofNat_lt, Int.ofNat_le] at hQz); first | trivial)))
 | (apply st_c; (case hc => (simp only [go_sem, *] <;> rfl)); (case hl => (simp only [go_sem, *] <;> rfl)); (case hn => (simp only [go_sem, *] <;> rfl)); (case hp => first | exact a1 | (have hXz := a1; simp only [go_sem, *] at hXz; exact hXz)))
 | (apply st_c; (case hc => (simp only [go_sem, *] <;> rfl)); (case hl => (simp only [go_sem, *] <;> rfl)); (case hn => (simp only [go_sem, *] <;> rfl)); (case hp => first | exact a2 | (have hXz := a2; simp only [go_sem, *] at hXz; exact hXz)))
 | (apply st_c; (case hc => (simp only [go_sem, *] <;> rfl)); (case hl => (simp only [go_sem, *] <;> rfl)); (case hn => (simp only [go_sem, *] <;> rfl)); (case hp => first | exact a3 | (have hXz := a3; simp only [go_sem, *] at hXz; exact hXz)))
 | (apply st_mc; (case hop => rfl); (case hg => (simp only [go_sem, *] <;> rfl)); (case hc => (intro hQz; (try simp only [wantB_t, wantB_f, Bool.and_eq_true, Bool.not_eq_true', Bool.not_true, Bool.not_false, and_true, true_and] at hQz); simp only [go_sem, *] <;> rfl)); (case hl => (intro hQz; (try simp only [wantB_t, wantB_f, Bool.and_eq_true, Bool.not_eq_true', Bool.not_true, Bool.not_false, and_true, true_and] at hQz); simp only [go_sem, *] <;> rfl)); (case hn => (intro hQz; (try simp only [wantB_t, wantB_f, Bool.and_eq_true, Bool.not_eq_true', Bool.not_true, Bool.not_false, and_true, true_and] at hQz); simp only [go_sem, *] <;> rfl)); (case hp => intro hQz; first | exact a4 | (have hXz := a4; simp only [go_sem, *] at hXz; exact hXz)))
 | (apply st_cd; (case hc => (simp only [go_sem, *] <;> rfl)); (case hl => (simp only [go_sem, *] <;> rfl)); (case hn => (simp only [go_sem, *] <;> rfl)); (case hp => first | exact a5 | (have hXz := a5; simp only [go_sem, *] at hXz; exact hXz)); (case hd => first | exact .v _ | exact .any | exact .nils | (repeat' (first | exact Dry.v _ | exact Dry.any | exact Dry.nils | exact Dry.slE | refine Dry.agg ?_ | refine Dry.tup ?_ | (refine List.forall_mem_cons.2 (And.intro ?_ ?_)) | (intro cQ hQ; cases hQ; done)))); (case hm => first | decide | (simp; done)))
 | (apply st_c; (case hc => (simp only [go_sem, *] <;> rfl)); (case hl => (simp only [go_sem, *] <;> rfl)); (case hn => (simp only [go_sem, *] <;> rfl)); (case hp => first | exact a6 | (have hXz := a6; simp only [go_sem, *] at hXz; exact hXz)))
 | (apply st_cd; (case hc => (simp only [go_sem, *] <;> rfl)); (case hl => (simp only [go_sem, *] <;> rfl)); (case hn => (simp only [go_sem, *] <;> rfl)); (case hp => first | exact a7 | (have hXz := a7; simp only [go_sem, *] at hXz; exact hXz)); (case hd => first | exact .v _ | exact .any | exact .nils | (repeat' (first | exact Dry.v _ | exact Dry.any | exact Dry.nils | exact Dry.slE | refine Dry.agg ?_ | refine Dry.tup ?_ | (refine List.forall_mem_cons.2 (And.intro ?_ ?_)) | (intro cQ hQ; cases hQ; done)))); (case hm => first | decide | (simp; done)))
 | (apply st_mc; (case hop => rfl); (case hg => (simp only [go_sem, *] <;> rfl)); (case hc => (intro hQz; (try simp only [wantB_t, wantB_f, Bool.and_eq_true, Bool.not_eq_true', Bool.not_true, Bool.not_false, and_true, true_and] at hQz); simp only [go_sem, *] <;> rfl)); (case hl => (intro hQz; (try simp only [wantB_t, wantB_f, Bool.and_eq_true, Bool.not_eq_true', Bool.not_true, Bool.not_false, and_true, true_and] at hQz); simp only [go_sem, *] <;> rfl)); (case hn => (intro hQz; (try simp only [wantB_t, wantB_f, Bool.and_eq_true, Bool.not_eq_true', Bool.not_true, Bool.not_false, and_true, true_and] at hQz); simp only [go_sem, *] <;> rfl)); (case hp => intro hQz; first | exact a8 | (have hXz := a8; simp only [go_sem, *] at hXz; exact hXz)))
 | (apply st_g; (case hv => (simp only [go_sem, *] <;> rfl)); all_goals (intro hg; (try simp only [Bool.not_true, Bool.not_false, reduceCtorEq] at hg); (try have hg' := hg); (try simp only [decide_eq_true_eq, decide_eq_false_iff_not, Bool.and_eq_true, Bool.or_eq_false_iff, bne_iff_ne, bne_eq_false_iff_eq, beq_iff_eq, beq_eq_false_iff_ne, Int.not_lt, Int.not_le, Int.ofNat_lt, Int.ofNat_le, Int.natCast_inj] at hg')))
 | (refine Awp.ret ?_; try simp only [go_sem, *]))
  all_goals repeat' (first | exact Lower.bool (by first | rfl | (simp only [true_and, Bool.true_and, Bool.false_and, Bool.and_true, Bool.and_false, Bool.true_or, Bool.false_or, reduceIte, Bool.false_eq_true, *]; done) | (simp only [true_and, reduceIte, Bool.false_eq_true, *] <;> rfl) | (simp [true_and]; done) | (simp_all [true_and]; done) | omega))
end Go.Proofs
namespace Go.Ab
end Go.Ab
namespace Go.Proofs
open Go Go.Ab
set_option maxHeartbeats 8000000
set_option maxRecDepth 100000
attribute [local irreducible] Awp aops aopsL Go.Ab.Pure PureOwn
end Go.Proofs
namespace Go.Proofs
open Go Go.Ab
set_option maxHeartbeats 4000000
set_option maxRecDepth 100000
attribute [local irreducible] Awp aops aopsL Go.Ab.Pure PureOwn
end Go.Proofs
namespace Go.Proofs
open Go Go.Ab
set_option maxHeartbeats 8000000
set_option maxRecDepth 100000
attribute [local irreducible] Awp aops aopsL Go.Ab.Pure PureOwn PureTwoM
end Go.Proofs
namespace Go.Proofs
open Go Go.Ab
set_option maxHeartbeats 1000000
end Go.Proofs
namespace Go.Proofs
open Go Go.Ab
set_option maxHeartbeats 8000000
set_option maxRecDepth 100000
attribute [local irreducible] Awp aops aopsL Go.Ab.Pure PureOwn PureTwoM
theorem fewW_size {l : List Wk} {n : Int} (h : fewW l n = true) : (l.length : Int) ≤ n ∧ ∀ q ∈ l, q.af.length ≤ 20 ∧ q.id.size ≤ 100 := by
  unfold fewW at h
  rw [Bool.and_eq_true, decide_eq_true_eq, List.all_eq_true] at h
  refine ⟨h.1, fun q hq => ?_⟩
  have := h.2 q hq
  unfold bigWk at this
  simp only [Bool.not_eq_true', Bool.or_eq_false_iff, decide_eq_false_iff_not] at this
  omega
theorem rcrit_all (l : List Wk) (hl : l.length ≤ 140) (ha : ∀ q ∈ l, q.af.length ≤ 20 ∧ q.id.size ≤ 100) : Pure Tryz.prog 14 [.sl (wks l)] (.tup [.v (.int .i64 (critE l)), .v (.int .i64 (ordE l).2)]) := by
  have hs := order_same l
  by_cases hE : (ordE l).2 = 0
  · obtain ⟨D, h1, h2, h3, h4⟩ := crit_same hE
    obtain ⟨hj, ho, hn, _⟩ := ord_all hE
    have := rcrit_ok l D (fun q hq => ⟨(ha q hq).1, by have := (ha q hq).2; omega⟩) hl (by rw [hs]; exact hE) (jobsE_inv hj).2.2 (jobs_edok ho hn) (jobs_hrok hj) h1 h2 h3
    rw [h4] at this
    rw [hE]
    exact this
  · have := rcrit_bad l (fun q hq => ⟨by have := (ha q hq).1; omega, by have := (ha q hq).2; omega⟩) (by omega) (by rw [hs]; exact hE)
    rw [hs] at this
    have hc : critE l = 0 := by unfold critE; rw [if_pos hE]
    rw [hc]
    exact this
theorem orders_ok (l : List Wk) : Pure Tryz.prog 3 [.sl (wks l)] (.v (.bool true)) := by
  have f0 := fewW_ok l 140 (by decide)
  have f1 := alive_ok
  cases hF : fewW l 140
  · rw [hF] at f0
    refine fn_pure Tryz.F3 (Nat.le_of_ble_eq_true rfl) ?_; unfold Tryz.ac3 AR AM AO
    repeat' (first
 | (apply Awp.sreg; (case hn => (simp only [List.length_cons, List.length_nil, Nat.reduceAdd] <;> rfl)))
 | (refine st_nil ?_)
 | (apply st_a; (case hc => rfl); (case he => (simp only [go_sem, *] <;> rfl)); (case hu => (simp only [updL_nil, updL_cons] <;> rfl)); (case hp => first | trivial))
 | (apply st_c; (case hc => (simp only [go_sem, *] <;> rfl)); (case hl => (simp only [go_sem, *] <;> rfl)); (case hn => (simp only [go_sem, *] <;> rfl)); (case hp => first | exact f0 | (have hXz := f0; simp only [go_sem, *] at hXz; exact hXz)))
 | (apply st_c; (case hc => (simp only [go_sem, *] <;> rfl)); (case hl => (simp only [go_sem, *] <;> rfl)); (case hn => (simp only [go_sem, *] <;> rfl)); (case hp => first | exact f1 | (have hXz := f1; simp only [go_sem, *] at hXz; exact hXz)))
 | (refine Awp.ret ?_; try simp only [go_sem, *])
 | (apply Awp.cond; (case hc => (simp only [go_sem, *] <;> rfl)); all_goals (intro hg; (try simp only [Bool.not_true, Bool.not_false, reduceCtorEq] at hg); (try have hg' := hg); (try simp only [decide_eq_true_eq, decide_eq_false_iff_not, Bool.and_eq_true, Bool.or_eq_false_iff, bne_iff_ne, bne_eq_false_iff_eq, beq_iff_eq, beq_eq_false_iff_ne, Int.not_lt, Int.not_le, Int.ofNat_lt, Int.ofNat_le, Int.natCast_inj] at hg')))
 | refine Awp.seq ?_)
    all_goals repeat' (first | exact Lower.bool (by first | rfl | (simp only [true_and, Bool.true_and, Bool.false_and, Bool.and_true, Bool.and_false, Bool.true_or, Bool.false_or, reduceIte, Bool.false_eq_true, *]; done) | (simp only [true_and, reduceIte, Bool.false_eq_true, *] <;> rfl) | (simp [true_and]; done) | (simp_all [true_and]; done) | omega))
  · rw [hF] at f0
    obtain ⟨hl, ha⟩ := fewW_size hF
    have hb : ∀ q ∈ l, q.af.length < 1000000 ∧ q.id.size < 1000000 := fun q hq => by have := ha q hq; omega
    have c0 := order_ok l (by omega) (fun q hq => (hb q hq).1)
    have c1 := rord_ok l hb (by omega)
    rw [order_same] at c1
    have c2 := critical_ok l (by omega) (fun q hq => (hb q hq).1)
    have c3 := rcrit_all l (by omega) ha
    have c4 := same04_ok (ids (ordE l).1) (by rw [ids_len]; have := ordE_len l; omega)
    simp only at c1
    generalize critE l = n at *
    generalize ordE l = R at *
    obtain ⟨S, e⟩ := R
    simp only at c0 c1 c2 c3 c4
    have h1 : (e == e) = true := beq_self_eq_true e
    have h2 : (n == n) = true := beq_self_eq_true n
    clear ha hb hl hF
    refine fn_pure Tryz.F3 (Nat.le_of_ble_eq_true rfl) ?_; unfold Tryz.ac3 AR AM AO
    repeat' (first
 | (apply Awp.sreg; (case hn => (simp only [List.length_cons, List.length_nil, Nat.reduceAdd] <;> rfl)))
 | (refine st_nil ?_)
 | (apply st_a; (case hc => rfl); (case he => (simp only [go_sem, *] <;> rfl)); (case hu => (simp only [updL_nil, updL_cons] <;> rfl)); (case hp => first | trivial))
 | (apply st_m; (case hc => rfl); (case hg => (simp only [go_sem, *] <;> rfl)); (case he => (intro hQz; (try simp only [wantB_t, wantB_f, Bool.and_eq_true, Bool.not_eq_true', Bool.not_true, Bool.not_false, and_true, true_and] at hQz); simp only [go_sem, *] <;> rfl)); (case hp => (intro hQz; (try simp only [wantB_t, wantB_f, Bool.and_eq_true, Bool.not_eq_true', Bool.or_eq_false_iff, decide_eq_true_eq, decide_eq_false_iff_not, beq_iff_eq, beq_eq_false_iff_ne, bne_iff_ne, bne_eq_false_iff_eq, Int.not_lt, Int.not_le, Int.ofNat_lt, Int.ofNat_le] at hQz); first | trivial)))
 | (apply st_c; (case hc => (simp only [go_sem, *] <;> rfl)); (case hl => (simp only [go_sem, *] <;> rfl)); (case hn => (simp only [go_sem, *] <;> rfl)); (case hp => first | exact f0 | (have hXz := f0; simp only [go_sem, *] at hXz; exact hXz)))
 | (apply st_mc; (case hop => rfl); (case hg => (simp only [go_sem, *] <;> rfl)); (case hc => (intro hQz; (try simp only [wantB_t, wantB_f, Bool.and_eq_true, Bool.not_eq_true', Bool.not_true, Bool.not_false, and_true, true_and] at hQz); simp only [go_sem, *] <;> rfl)); (case hl => (intro hQz; (try simp only [wantB_t, wantB_f, Bool.and_eq_true, Bool.not_eq_true', Bool.not_true, Bool.not_false, and_true, true_and] at hQz); simp only [go_sem, *] <;> rfl)); (case hn => (intro hQz; (try simp only [wantB_t, wantB_f, Bool.and_eq_true, Bool.not_eq_true', Bool.not_true, Bool.not_false, and_true, true_and] at hQz); simp only [go_sem, *] <;> rfl)); (case hp => intro hQz; first | exact f1 | (have hXz := f1; simp only [go_sem, *] at hXz; exact hXz)))
 | (apply st_c; (case hc => (simp only [go_sem, *] <;> rfl)); (case hl => (simp only [go_sem, *] <;> rfl)); (case hn => (simp only [go_sem, *] <;> rfl)); (case hp => first | exact c0 | (have hXz := c0; simp only [go_sem, *] at hXz; exact hXz)))
 | (apply st_c; (case hc => (simp only [go_sem, *] <;> rfl)); (case hl => (simp only [go_sem, *] <;> rfl)); (case hn => (simp only [go_sem, *] <;> rfl)); (case hp => first | exact c1 | (have hXz := c1; simp only [go_sem, *] at hXz; exact hXz)))
 | (apply st_c; (case hc => (simp only [go_sem, *] <;> rfl)); (case hl => (simp only [go_sem, *] <;> rfl)); (case hn => (simp only [go_sem, *] <;> rfl)); (case hp => first | exact c2 | (have hXz := c2; simp only [go_sem, *] at hXz; exact hXz)))
 | (apply st_c; (case hc => (simp only [go_sem, *] <;> rfl)); (case hl => (simp only [go_sem, *] <;> rfl)); (case hn => (simp only [go_sem, *] <;> rfl)); (case hp => first | exact c3 | (have hXz := c3; simp only [go_sem, *] at hXz; exact hXz)))
 | (apply st_c; (case hc => (simp only [go_sem, *] <;> rfl)); (case hl => (simp only [go_sem, *] <;> rfl)); (case hn => (simp only [go_sem, *] <;> rfl)); (case hp => first | exact c4 | (have hXz := c4; simp only [go_sem, *] at hXz; exact hXz)))
 | (refine Awp.ret ?_; try simp only [go_sem, *])
 | (refine Awp.skip ?_; try simp only [go_sem, *])
 | (apply Awp.cond; (case hc => (simp only [go_sem, *] <;> rfl)); all_goals (intro hg; (try simp only [Bool.not_true, Bool.not_false, reduceCtorEq] at hg); (try have hg' := hg); (try simp only [decide_eq_true_eq, decide_eq_false_iff_not, Bool.and_eq_true, Bool.or_eq_false_iff, bne_iff_ne, bne_eq_false_iff_eq, beq_iff_eq, beq_eq_false_iff_ne, Int.not_lt, Int.not_le, Int.ofNat_lt, Int.ofNat_le, Int.natCast_inj] at hg')))
 | refine Awp.seq ?_)
    all_goals repeat' (first | exact Lower.bool (by first | rfl | (simp only [true_and, Bool.true_and, Bool.false_and, Bool.and_true, Bool.and_false, Bool.true_or, Bool.false_or, reduceIte, Bool.false_eq_true, *]; done) | (simp only [true_and, reduceIte, Bool.false_eq_true, *] <;> rfl) | (simp [true_and]; done) | (simp_all [true_and]; done) | omega))
end Go.Proofs
namespace Go.Ab
open Go.ChangeShapes Go.WideShapes Go.RowKit

theorem Keeps.below {W W' : World} (h : Keeps W W') : Below W.heap.size W W' := ⟨h.os, h.tape, h.out, h.size, h.heap⟩

section
variable {H : Type} {enc : TypeId × Value → H} {P : Program}

theorem trodAll_keeps (hl : laidOutB P = true) {W W' : World} {sp : Nat → Bool} (hb : Below W.heap.size W W') :
    ∀ {ts : List TypeId} {vs : List Value} {ds : List (DataW H)} {ps : List MemPlace}, (∀ t ∈ ts, P.readableRec t = true ∧ t < P.types.size) → (∀ x ∈ ps, x.block < W.heap.size) → (∀ x ∈ ps, sp x.block = true) →
      DataW.TrodAll enc P W 0 (fun _ => true) true ts vs ds ps → DataW.TrodAll enc P W' 0 sp true ts vs ds ps
  | [], _, _, _, _, _, _, h => by
    obtain ⟨rfl, rfl, rfl⟩ := trodAll_nil h
    exact trodAll_mk0
  | t :: ts, _, _, _, hts, hlt, hsp, h => by
    obtain ⟨v, vs, d, ds, a, b, rfl, rfl, rfl, h1, h2⟩ := trodAll_cons h
    obtain ⟨hr, hrow⟩ := hts t (List.mem_cons.2 (.inl rfl))
    refine trodAll_cons_mk (WideElems.Trod_stays hl hr hrow h1 (fun x hx => hb.same (hlt x ?_)) (fun x hx => hsp x ?_)) (trodAll_keeps hl hb (fun u hu => hts u (List.mem_cons.2 (.inr hu))) (fun x hx => hlt x ?_) (fun x hx => hsp x ?_) h2)
    all_goals simp [hx]

theorem post_true {f : Func} {s : ChangeSpec} {apart fresh handsOn again : Bool} {W W' : World} {args : Array Value} {ds gs : List (DataW H)} {before : List MemPlace} {tb : TypeId}
    (hl : laidOutB P = true) (htb' : (f.params.toList.all fun t => P.readableRec t && decide (t < P.types.size)) = true) (hrt : f.resultTypes = #[tb]) (htb : P.underlying tb = some .bool) (hs : s.vars = [])
    (hW : DataW.Whole enc P f.params.toList s.vars apart W args.toList ds gs before) (hb : Below W.heap.size W W')
    (hf : (s.fn H (ds ++ gs)).results = [.lit (.bool true)] ∧ (s.fn H (ds ++ gs)).args = ds ∧ (s.fn H (ds ++ gs)).vars = []) :
    s.post enc P f apart fresh handsOn again W args (.bool true) W' := by
  have hts : ∀ t ∈ f.params.toList, P.readableRec t = true ∧ t < P.types.size := fun t ht => by simpa using List.all_eq_true.1 htb' t ht
  have hW' := hW
  obtain ⟨p, q, hA, hV, hpq, hz, hn⟩ := hW
  have hV0 : gs = [] ∧ q = [] := by rw [hs] at hV; exact trodVars_none hV
  obtain ⟨rfl, rfl⟩ := hV0
  obtain rfl : before = p := by simpa using hpq
  obtain ⟨f1, f2, f3⟩ := hf
  have hlt : ∀ x ∈ before, x.block < W.heap.size := fun x hx => hW'.lt x hx
  have hargs : ∀ sp : Nat → Bool, (∀ x ∈ before, sp x.block = true) → DataW.TrodAll enc P W' 0 sp true f.params.toList args.toList (s.fn H (ds ++ [])).args before := fun sp hsp => by
    rw [f2]; exact trodAll_keeps hl hb hts hlt hsp hA
  have hvars : ∀ sp : Nat → Bool, DataW.TrodVars enc P W' sp s.vars (s.fn H (ds ++ [])).vars [] := fun sp => by rw [f3, hs]; rfl
  have hres : ∀ (b : Nat) (sp : Nat → Bool) (hd : Bool), DataW.TrodAll enc P W' b sp hd f.resultTypes.toList ((Value.bool true).resultList f.resultTypes.size) (s.fn H (ds ++ [])).results [] := fun b sp hd => by
    rw [f1, hrt]; exact trodAll_cons_mk (shut_bool htb _) trodAll_mk0
  have hold : ∀ x ∈ before, (fun b => decide (b < W.heap.size)) x.block = true := fun x hx => by simpa using hlt x hx
  refine ⟨ds, [], before, [], before, [], hW', hres _ _ _, hargs _ hold, hvars _, World.keptBut_mono (fun x hx => ⟨hx, .inr (by simpa using hx)⟩) (hb.frame (· ∈ before)), fun _ => ⟨?_, _, _, ([] ++ before) ++ [], ⟨[] ++ before, [], trodAll_append (hargs _ fun _ _ => rfl) (hres _ _ _), hvars _, rfl, ?_, ?_⟩, ?_⟩⟩
  · exact ok_one hrt rfl (okWide_bool_mk htb _)
  · intro b off hp
    have hp' : MemPlace.cell b off ∈ before := by simpa using hp
    rw [hb.frozen (p := ⟨b, off, none⟩) (hlt _ hp')]
    exact hz b off hp'
  · intro ha
    simpa using hn ha
  · intro x hx _
    simpa using hx

theorem pargs1 {w : World} {a0 : AV} {c0 : Value} (h0 : PureV (fun g => g < w.heap.size ∧ True) w a0 c0) : PArgs (fun _ => True) w [a0] [c0] :=
  ⟨rfl, fun j hj => by match j, hj with | 0, _ => exact h0⟩
/-- A contract that says 'true', at a call whose arguments read so: the row's 'post'. -/
theorem calls_true {f : Func} {fid : FuncId} {s : ChangeSpec} {apart fresh handsOn again : Bool} {W : World} {asz : List AV} {cs : List Value} {ds gs : List (DataW H)} {before : List MemPlace} {tb : TypeId}
    (hl : laidOutB P = true) (htb' : (f.params.toList.all fun t => P.readableRec t && decide (t < P.types.size)) = true) (hrt : f.resultTypes = #[tb]) (htb : P.underlying tb = some .bool) (hs : s.vars = [])
    (hW : DataW.Whole enc P f.params.toList s.vars apart W cs.toArray.toList ds gs before) (hf : (s.fn H (ds ++ gs)).results = [.lit (.bool true)] ∧ (s.fn H (ds ++ gs)).args = ds ∧ (s.fn H (ds ++ gs)).vars = [])
    (hc : Pure P fid asz (.v (.bool true))) (ha : PArgs (fun _ => True) W asz cs) :
    Calls P fid cs.toArray W fun e W' => ∃ v, e = .returned v ∧ s.post enc P f apart fresh handsOn again W cs.toArray v W' := by
  refine (hc.2 _ W cs ha).mono fun e W' ⟨c, he, hk, hv⟩ => ?_
  obtain rfl : c = .bool true := by cases hv; rfl
  exact ⟨_, he, post_true hl htb' hrt htb hs hW hk.below hf⟩
end
end Go.Ab
namespace Go.Ab
open Go.ChangeShapes Go.WideShapes Go.RowKit

/-- Fields that lie one behind the other. -/
def tiledTo (P : Program) (off : Nat) : List Field → Nat → Bool
  | [], e => off == e
  | f :: fs, e => f.offset == off && tiledTo P (off + P.cellsOf f.type) fs e

def readsTy (P : Program) : Nat → TypeId → Bool
  | 0, _ => false
  | n + 1, t => match P.underlying t with
    | some (.int _) | some .bool | some .string => P.cellsOf t == 1
    | some (.struct fs) => tiledTo P 0 fs.toList (P.cellsOf t) && fs.toList.all fun f => readsTy P n f.type
    | some (.slice e) => P.cellsOf t == 1 && decide (0 < P.cellsOf e) && readsTy P n e
    | some (.array k e) => P.cellsOf t == k * P.cellsOf e && readsTy P n e
    | _ => false

def FieldsShape (S : TypeId → List AV → Prop) : List TypeId → List AV → Prop
  | [], asz => asz = []
  | t :: ts, asz => ∃ p q, asz = p ++ q ∧ S t p ∧ FieldsShape S ts q

/-- The cells of a value of a type. -/
def Shape (P : Program) : Nat → TypeId → List AV → Prop
  | 0, _, _ => False
  | n + 1, t, asz => match P.underlying t with
    | some (.int k) => ∃ i, asz = [.v (.int k i)] ∧ (Lit.int k i).wf = true
    | some .bool => ∃ b, asz = [.v (.bool b)]
    | some .string => ∃ s : ByteArray, asz = [.v (.string s)] ∧ s.size ≤ maxLen
    | some (.struct fs) => FieldsShape (Shape P n) (fs.toList.map (·.type)) asz
    | some (.slice e) => ∃ es, asz = [.sl es] ∧ es.length ≤ maxLen ∧ ∀ r ∈ es, Shape P n e r
    | some (.array k e) => ∃ rs : List (List AV), asz = rs.flatten ∧ rs.length = k ∧ ∀ r ∈ rs, Shape P n e r
    | _ => False

theorem av_append_left {p q : List AV} {j : Nat} (h : j < p.length) : av (p ++ q) j = av p j := by
  simp [av, List.getD_eq_getElem?_getD, List.getElem?_append_left h]
theorem av_append_right {p q : List AV} {j : Nat} (h : p.length ≤ j) : av (p ++ q) j = av q (j - p.length) := by
  simp [av, List.getD_eq_getElem?_getD, List.getElem?_append_right h]
theorem cv_piece {cs : List Value} {o k j : Nat} (h : j < k) : cv ((cs.drop o).take k) j = cv cs (o + j) := by
  simp [cv, List.getD_eq_getElem?_getD, List.getElem?_take_of_lt h, List.getElem?_drop]

theorem lists {α : Type} {Q : Nat → α → Prop} : ∀ (n : Nat), (∀ i, i < n → ∃ a, Q i a) → ∃ l : List α, l.length = n ∧ ∀ i a, l[i]? = some a → Q i a
  | 0, _ => ⟨[], rfl, fun i a h => by simp at h⟩
  | n + 1, h => by
    obtain ⟨l, hl, hq⟩ := lists n fun i hi => h i (by omega)
    obtain ⟨a, ha⟩ := h n (by omega)
    refine ⟨l ++ [a], by simp [hl], fun i b hb => ?_⟩
    rcases Nat.lt_or_ge i n with hi | hi
    · rw [List.getElem?_append_left (by omega)] at hb; exact hq i b hb
    · rw [List.getElem?_append_right (by omega)] at hb
      by_cases e : i - l.length = 0
      · rw [e] at hb
        obtain rfl : a = b := by simpa using hb
        obtain rfl : i = n := by omega
        exact ha
      · rw [List.getElem?_eq_none (by simp; omega)] at hb; simp at hb

def CellsOk (w : World) (asz : List AV) (cs : List Value) (o : Nat) : Prop :=
  ∀ j, j < asz.length → PureV (fun g => g < w.heap.size) w (av asz j) (cv cs (o + j)) ∧ (cv cs (o + j)).oneCell' = true

theorem CellsOk.append {w : World} {p q : List AV} {cs : List Value} {o : Nat} (h1 : CellsOk w p cs o) (h2 : CellsOk w q cs (o + p.length)) : CellsOk w (p ++ q) cs o := by
  intro j hj
  rcases Nat.lt_or_ge j p.length with h | h
  · rw [av_append_left h]; exact h1 j h
  · rw [av_append_right h]
    have := h2 (j - p.length) (by simp at hj; omega)
    rwa [show o + p.length + (j - p.length) = o + j by omega] at this

section
variable {H : Type} {enc : TypeId × Value → H} {P : Program} {w : World} {spare : Nat → Bool} {held : Bool}

theorem read_fields {S : TypeId → List AV → Prop} {cs : List Value} : ∀ (fs : List Field) (o e : Nat), tiledTo P o fs e = true → e ≤ cs.length →
    (∀ f ∈ fs, ∃ asz, S f.type asz ∧ asz.length = P.cellsOf f.type ∧ CellsOk w asz cs f.offset) → ∃ asz, FieldsShape S (fs.map (·.type)) asz ∧ o + asz.length = e ∧ CellsOk w asz cs o
  | [], o, e, ht, _, _ => ⟨[], rfl, by simpa [tiledTo] using ht, fun j hj => by simp at hj⟩
  | f :: fs, o, e, ht, he, hf => by
    simp only [tiledTo, Bool.and_eq_true, beq_iff_eq] at ht
    obtain ⟨p, hp, hpl, hpc⟩ := hf f (List.mem_cons.2 (.inl rfl))
    obtain ⟨q, hq, hql, hqc⟩ := read_fields fs _ e ht.2 he fun g hg => hf g (List.mem_cons.2 (.inr hg))
    rw [ht.1] at hpc
    rw [← hpl] at hqc hql
    exact ⟨p ++ q, ⟨p, q, rfl, hp, hq⟩, by simp; omega, hpc.append hqc⟩

theorem read_rows {S : List AV → Prop} {cs : List Value} {sz : Nat} : ∀ (k o : Nat),
    (∀ i, i < k → ∃ asz, S asz ∧ asz.length = sz ∧ CellsOk w asz cs (o + i * sz)) → ∃ rs : List (List AV), rs.length = k ∧ (∀ r ∈ rs, S r) ∧ rs.flatten.length = k * sz ∧ CellsOk w rs.flatten cs o
  | 0, o, _ => ⟨[], rfl, by simp, by simp, fun j hj => by simp at hj⟩
  | k + 1, o, h => by
    obtain ⟨p, hp, hpl, hpc⟩ := h 0 (by omega)
    obtain ⟨rs, hl, hs, hf, hc⟩ := read_rows k (o + sz) fun i hi => by
      obtain ⟨asz, h1, h2, h3⟩ := h (i + 1) (by omega)
      exact ⟨asz, h1, h2, by rwa [show o + sz + i * sz = o + (i + 1) * sz by rw [Nat.add_mul]; omega]⟩
    refine ⟨p :: rs, by simp [hl], fun r hr => ?_, by simp [hf, hpl, Nat.add_mul, Nat.add_comm], ?_⟩
    · rcases List.mem_cons.1 hr with rfl | hr
      · exact hp
      · exact hs r hr
    · simp only [List.flatten_cons]
      refine CellsOk.append (by simpa using hpc) (by rw [hpl]; exact hc)

theorem read_ty : ∀ (n : Nat) (t : TypeId), readsTy P n t = true → ∀ {fuel : Nat} {cs : List Value} {x : DataW H × List MemPlace}, DataW.trod enc P w 0 spare held fuel t cs = some x →
    cs.length = P.cellsOf t ∧ ∃ asz, Shape P n t asz ∧ asz.length = cs.length ∧ CellsOk w asz cs 0
  | 0, t, ht, _, _, _, _ => by simp [readsTy] at ht
  | n + 1, t, ht, fuel, cs, x, h => by
    unfold readsTy at ht
    unfold Shape
    split at ht
    · rename_i k hu
      obtain ⟨i, rfl, _, hw⟩ := DataW.trod_int hu h
      exact ⟨by simpa using (by simpa using ht : P.cellsOf t = 1).symm, _, ⟨i, rfl, hw⟩, rfl, fun j hj => by match j, hj with | 0, _ => exact ⟨.v _, rfl⟩⟩
    · rename_i hu
      obtain ⟨b, rfl, _⟩ := DataW.trod_bool hu h
      exact ⟨by simpa using (by simpa using ht : P.cellsOf t = 1).symm, _, ⟨b, rfl⟩, rfl, fun j hj => by match j, hj with | 0, _ => exact ⟨.v _, rfl⟩⟩
    · rename_i hu
      obtain ⟨s, rfl, _, hw⟩ := DataW.trod_string hu h
      exact ⟨by simpa using (by simpa using ht : P.cellsOf t = 1).symm, _, ⟨s, rfl, hw⟩, rfl, fun j hj => by match j, hj with | 0, _ => exact ⟨.v _, rfl⟩⟩
    · rename_i fs hu
      simp only [Bool.and_eq_true, List.all_eq_true] at ht
      obtain ⟨xs, m, _, _, hl, hlen, hf⟩ := DataW.trod_struct hu h
      refine ⟨hl, ?_⟩
      obtain ⟨asz, h1, h2, h3⟩ := read_fields (S := Shape P n) (w := w) (cs := cs) fs.toList 0 (P.cellsOf t) ht.1 (by omega) fun f hfm => by
        obtain ⟨i, hi, hfi⟩ := List.getElem_of_mem hfm
        have hi' : i < fs.size := by simpa using hi
        have e1 : fs[i]? = some f := by rw [Array.getElem?_eq_getElem hi']; simpa using hfi
        have h4 := hf i f e1
        obtain ⟨y, hy⟩ : ∃ y, xs[i]? = some y := ⟨_, List.getElem?_eq_getElem (by omega)⟩
        rw [hy] at h4
        obtain ⟨k1, asz, k2, k3, k4⟩ := read_ty n f.type (ht.2 f hfm) h4
        refine ⟨asz, k2, by omega, fun j hj => ?_⟩
        have := k4 j hj
        rw [Nat.zero_add, cv_piece (by omega)] at this
        exact this
      exact ⟨asz, h1, by omega, h3⟩
    · rename_i e hu
      simp only [Bool.and_eq_true, decide_eq_true_eq, beq_iff_eq] at ht
      rcases DataW.trod_slice hu h with ⟨rfl, _⟩ | ⟨a, len, cap, elems, rest, m, _, rfl, _, hb, hl, hm, hlen, hel, _, _⟩
      · exact ⟨by simpa using ht.1.1.symm, _, ⟨[], rfl, by simp, by simp⟩, rfl, fun j hj => by match j, hj with | 0, _ => exact ⟨.slE none 0 (by simp), rfl⟩⟩
      · refine ⟨by simpa using ht.1.1.symm, ?_⟩
        have each : ∀ i, i < len → ∃ asz : List AV × List Value, Shape P n e asz.1 ∧ asz.1.length = P.cellsOf e ∧ (∀ j, j < P.cellsOf e → w.cell? ((a.add (i * P.cellsOf e)).add j) = some (cv asz.2 j)) ∧ CellsOk w asz.1 asz.2 0 := by
          intro i hi
          have h4 := hel i hi
          obtain ⟨y, hy⟩ : ∃ y, elems[i]? = some y := ⟨_, List.getElem?_eq_getElem (by omega)⟩
          rw [hy, Option.bind_eq_some_iff] at h4
          obtain ⟨cs', hc, ht'⟩ := h4
          obtain ⟨k1, asz, k2, k3, k4⟩ := read_ty n e ht.2 ht'
          obtain ⟨_, hcl, hca⟩ := World.cells?_some hc
          refine ⟨(asz, cs'), k2, by simp; omega, fun j hj => ?_, k4⟩
          rw [hca j hj]
          have : j < cs'.length := by omega
          simp [cv, List.getD_eq_getElem?_getD, this]
        obtain ⟨l, hll, hlq⟩ := lists len each
        by_cases h0 : len = 0
        · subst h0
          exact ⟨_, ⟨[], rfl, by simp, by simp⟩, rfl, fun j hj => by match j, hj with | 0, _ => exact ⟨.slE (some a) cap hm, rfl⟩⟩
        · have hg0 := (hlq 0 _ (List.getElem?_eq_getElem (by omega))).2.2.1 0 ht.1.2
          obtain ⟨g, off, q⟩ := a
          have hq : q = none ∧ g < w.heap.size := by
            have e0 : ((Addr.mk g off q).add (0 * P.cellsOf e)).add 0 = ⟨g, off, q⟩ := by simp [Addr.add]
            rw [e0] at hg0
            unfold World.cell? at hg0
            cases hg : w.heap[g]? with
            | none => simp [hg] at hg0
            | some o =>
              refine ⟨?_, (Array.getElem?_eq_some_iff.1 hg).1⟩
              cases q with
              | none => rfl
              | some v => cases o <;> simp [hg] at hg0
          obtain ⟨rfl, hlt⟩ := hq
          have hes : (l.map (·.1)).length = len := by simp [hll]
          have at_ : ∀ i (hi : i < len), ∃ asz, l[i]? = some asz ∧ (l.map (·.1)).getD i [] = asz.1 ∧ (fun i j => cv ((l.map (·.2)).getD i []) j) i = cv asz.2 := by
            intro i hi
            refine ⟨l[i]'(by omega), List.getElem?_eq_getElem (by omega), ?_, ?_⟩
            · simp [List.getD_eq_getElem?_getD, List.getElem?_eq_getElem (show i < l.length by omega)]
            · funext j
              simp [List.getD_eq_getElem?_getD, List.getElem?_eq_getElem (show i < l.length by omega)]
          have hp := PureV.slC (st := fun g => g < w.heap.size) (w := w) (l.map (·.1)) g off cap (P.cellsOf e) (fun i j => cv ((l.map (·.2)).getD i []) j) (by omega) hm ht.1.2 (fun e' => by rw [e'] at hes; simp at hes; omega)
            (fun r hr => by
              obtain ⟨asz, has, rfl⟩ := List.mem_map.1 hr
              obtain ⟨i, hi⟩ := List.getElem?_of_mem has
              exact (hlq i asz hi).2.1)
            hlt
            (fun i j hi hj => by
              obtain ⟨asz, ha, e1, e2⟩ := at_ i (by omega)
              have h5 := (hlq i asz ha).2.2.1 j hj
              have h6 := ((hlq i asz ha).2.2.2 j (by rw [(hlq i asz ha).2.1]; exact hj)).2
              rw [Nat.zero_add] at h6
              have e3 : cv ((l.map (·.2)).getD i []) j = cv asz.2 j := congrFun e2 j
              show w.cell? _ = some (cv ((l.map (·.2)).getD i []) j) ∧ (cv ((l.map (·.2)).getD i []) j).oneCell' = true
              rw [e3]
              refine ⟨?_, h6⟩
              rw [← h5]
              congr 1
              simp only [Addr.add]
              split <;> split <;> simp_all <;> omega)
            (fun i j hi hj => by
              obtain ⟨asz, ha, e1, e2⟩ := at_ i (by omega)
              have h6 := ((hlq i asz ha).2.2.2 j (by rw [(hlq i asz ha).2.1]; exact hj)).1
              rw [Nat.zero_add] at h6
              have e3 : cv ((l.map (·.2)).getD i []) j = cv asz.2 j := congrFun e2 j
              show PureV _ w (av ((l.map (·.1)).getD i []) j) (cv ((l.map (·.2)).getD i []) j)
              rw [e1, e3]
              exact h6)
          rw [hes] at hp
          refine ⟨[.sl (l.map (·.1))], ⟨_, rfl, by omega, fun r hr => ?_⟩, rfl, fun j hj => by match j, hj with | 0, _ => exact ⟨hp, rfl⟩⟩
          obtain ⟨asz, has, rfl⟩ := List.mem_map.1 hr
          obtain ⟨i, hi⟩ := List.getElem?_of_mem has
          exact (hlq i asz hi).1
    · rename_i k e hu
      simp only [Bool.and_eq_true, beq_iff_eq] at ht
      obtain ⟨xs, m, _, _, hl, hlen, hf⟩ := DataW.trod_array hu h
      refine ⟨hl, ?_⟩
      obtain ⟨rs, h1, h2, h3, h4⟩ := read_rows (S := Shape P n e) (w := w) (cs := cs) (sz := P.cellsOf e) k 0 fun i hi => by
        have h4 := hf i hi
        obtain ⟨y, hy⟩ : ∃ y, xs[i]? = some y := ⟨_, List.getElem?_eq_getElem (by omega)⟩
        rw [hy] at h4
        obtain ⟨k1, asz, k2, k3, k4⟩ := read_ty n e ht.2 h4
        refine ⟨asz, k2, by omega, fun j hj => ?_⟩
        have := k4 j hj
        rw [Nat.zero_add, cv_piece (by omega)] at this
        rwa [Nat.zero_add]
      exact ⟨rs.flatten, ⟨rs, rfl, h1, h2⟩, by omega, h4⟩
    · simp at ht

/-- A slice among the arguments. -/
theorem arg_slice {t e : TypeId} {r : Reach} {b0 : Nat} {v : Value} {d : DataW H} {p : List MemPlace} (n : Nat) (hu : P.underlying t = some (.slice e)) (ht : readsTy P n t = true)
    (hval : Value.okWide P w r b0 t v) (hd : DataW.Trod enc P w 0 spare held t v d p) : ∃ a, Shape P n t [a] ∧ PureV (fun g => g < w.heap.size ∧ True) w a v := by
  obtain ⟨fuel, h⟩ := hd
  obtain ⟨a0, len, cap, rfl⟩ := okWide_slice hu hval
  obtain ⟨_, asz, h1, h2, h3⟩ := read_ty n t ht h
  match asz, h2 with
  | [a], _ =>
  exact ⟨a, h1, (h3 0 (by simp)).1.mono fun g hg => ⟨⟨hg, trivial⟩, rfl⟩⟩

end

/-- The cells that a datum lays. -/
def laidVals : Nat → DataW Unit → List Value
  | 0, _ => []
  | _ + 1, .lit (.int k n) => [.int k n]
  | _ + 1, .lit (.bool b) => [.bool b]
  | _ + 1, .lit (.string s) => [.string ⟨s.toArray⟩]
  | n + 1, .agg xs => xs.flatMap (laidVals n)
  | _ + 1, _ => []

theorem map_shape {α : Type} {f : α → List AV} : ∀ {es : List (List AV)}, (∀ r ∈ es, ∃ x : α, r = f x) → ∃ l : List α, es = l.map f
  | [], _ => ⟨[], rfl⟩
  | r :: es, h => by
    obtain ⟨x, rfl⟩ := h r (List.mem_cons.2 (.inl rfl))
    obtain ⟨l, rfl⟩ := map_shape (es := es) fun q hq => h q (List.mem_cons.2 (.inr hq))
    exact ⟨x :: l, rfl⟩
end Go.Ab
namespace Go.Proofs
open Go Go.Ab Go.ChangeShapes Go.WideShapes Go.ChangeAt Go.RowKit
set_option maxRecDepth 100000
theorem rest_laid : laidOutB Tryz.prog = true := by kernel_rfl
theorem rest_own : ownKnob Tryz.prog.godebug = none := by kernel_rfl
theorem shape_strs {qs : List AV} (h : Shape Tryz.prog 2 25 qs) : ∃ l : List ByteArray, qs = [.sl (strs l)] := by
  unfold Shape at h
  rw [Tryz.underlying25] at h
  obtain ⟨es, rfl, _, he⟩ := h
  obtain ⟨l, rfl⟩ := map_shape (f := fun s : ByteArray => [AV.v (.string s)]) fun q hq => by
    have h1 := he q hq
    unfold Shape at h1
    simp only [Tryz.underlying9] at h1
    obtain ⟨x0, rfl, _⟩ := h1
    exact ⟨x0, rfl⟩
  exact ⟨l, rfl⟩
theorem shape_wk {qs : List AV} (h : Shape Tryz.prog 3 53 qs) : ∃ x : Wk, AV.agg qs = x.av := by
  unfold Shape at h
  rw [Tryz.underlying53] at h
  simp only [List.map_cons, List.map_nil, FieldsShape] at h
  obtain ⟨_, _, rfl, h0, _, _, rfl, h1, _, _, rfl, h2, _, _, rfl, h3, _, _, rfl, h4, rfl⟩ := h
  obtain ⟨l, rfl⟩ := shape_strs h4
  unfold Shape at h0 h1 h2 h3
  simp only [Tryz.underlying9, Tryz.underlying3] at h0 h1 h2 h3
  obtain ⟨x0, rfl, _⟩ := h0
  obtain ⟨x1, rfl, _⟩ := h1
  obtain ⟨x2, rfl, _⟩ := h2
  obtain ⟨x3, rfl, _⟩ := h3
  exact ⟨⟨x0, x1, x2, x3, l⟩, rfl⟩
theorem shape_wks {qs : List AV} (h : Shape Tryz.prog 4 22 qs) : ∃ l : List Wk, qs = [.sl (wks l)] := by
  unfold Shape at h
  rw [Tryz.underlying22] at h
  obtain ⟨es, rfl, _, he⟩ := h
  obtain ⟨l, rfl⟩ := map_shape (f := Wk.cells) fun q hq => by
    obtain ⟨x, hx⟩ := shape_wk (he q hq)
    refine ⟨x, ?_⟩
    have : AV.agg q = .agg x.cells := hx
    injection this
  exact ⟨l, rfl⟩
section
variable {H : Type} {enc : TypeId × Value → H} {w : World} {spare : Nat → Bool} {held : Bool} {r : Reach} {b0 : Nat} {v : Value} {d : DataW H} {p : List MemPlace}
theorem arg_wks (hval : Value.okWide Tryz.prog w r b0 22 v) (hd : DataW.Trod enc Tryz.prog w 0 spare held 22 v d p) : ∃ l : List Wk, PureV (fun g => g < w.heap.size ∧ True) w (.sl (wks l)) v := by
  obtain ⟨a, hs, hp⟩ := arg_slice 4 Tryz.underlying22 (by kernel_rfl) hval hd
  obtain ⟨l, e⟩ := shape_wks hs
  obtain rfl : a = .sl (wks l) := by simpa using e
  exact ⟨l, hp⟩
end
open YtnpaijljdkpiiaaGreatDoor in
/-- The settled world, the two tables of unicode/utf8 as their initialisers lay them. -/
noncomputable def laidWorld (os : Os) : World :=
  let w0 := World.holding Tryz.prog os ⟨#[], #[], []⟩
  let put (h : Array Obj) (g : Nat) (cs : Array Value) : Array Obj := h.modify g fun
    | .cells _ t frozen => .cells cs t frozen
    | o => o
  let h1 := put w0.heap 1 (laidVals 9 Rows.laid_unicode_utf8_first).toArray
  let h2 := put h1 2 (laidVals 9 (Rows.laid_unicode_utf8_acceptRanges (H := Unit))).toArray
  { w0 with heap := h2 }
open YtnpaijljdkpiiaaGreatDoor in
theorem laid_met0 (os : Os) (args : Array Value) : laidMet Tryz.prog Rows.shopOrdersRow.laid ((laidWorld os).forCall (fun _ _ => 0) ⟨#[], args, []⟩).memory :=
  laidMet_of_run' 8 (by kernel_rfl) (by kernel_rfl)
end Go.Proofs
