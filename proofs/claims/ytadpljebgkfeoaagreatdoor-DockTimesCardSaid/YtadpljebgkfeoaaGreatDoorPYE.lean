import Derived.Test.YtadpljebgkfeoaaGreatDoorPYD
import Derived.Test.YtadpljebgkfeoaaGreatDoorCards
import Derived.Test.YtadpljebgkfeoaaGreatDoorTie
import Derived.WalkKit
import Derived.ProofKit
import Derived.OpenShut
import Derived.Deep.DeepHandedRow
import Derived.Lib.LaidTab
section
set_option linter.unusedVariables false
set_option linter.unusedSimpArgs false
namespace Go.Proofs
open Go Go.Ab
set_option maxHeartbeats 8000000
set_option maxRecDepth 100000
set_option linter.unusedSimpArgs false
set_option linter.unusedVariables false
attribute [local irreducible] Awp aops aopsL Go.Ab.Pure PureOwn
theorem take_snocI (l : List Int) (i : Nat) (h : i < l.length) : l.take (i + 1) = l.take i ++ [l.getD i 0] := take_snoc l 0 i h
theorem ints_dry (l : List Int) : ∀ y ∈ ints l, ∀ c ∈ y, Dry c := by
  intro y hy c hc
  obtain ⟨z, _, rfl⟩ := List.mem_map.1 hy
  rw [List.mem_singleton.1 hc]
  exact .v _
theorem with_ok (l : List Int) (n : Int) (hl : l.length < 400000) : PureOwn Tryz.prog 35 [.sl (ints l), .v (.int .i64 n)] (ints (withZ l n)) 1 3 := by
  refine fn_own Tryz.F35 (Nat.le_of_ble_eq_true rfl) ?_; unfold Tryz.ac35
  repeat' (first
    | (apply Awp.sreg; (case hn => (simp only [List.length_cons, List.length_nil, Nat.reduceAdd] <;> rfl)))
    | (refine st_nil ?_)
    | (apply st_a; (case hc => rfl); (case he => (simp only [go_sem, *] <;> rfl)); (case hu => (simp only [updL_nil, updL_cons] <;> rfl)); (case hp => first | trivial))
    | refine Awp.block ?_
    | refine Awp.seq ?_)
  refine Awp.loop (fun i : Nat => i ≤ l.length) 90 (fun i => mkS [(0, .sl (ints l)), (1, .v (.int .i64 n)), (5, .own 0), (6, .v (.bool ((l.take i).foldl (withS n) ([], false)).2)), (7, .v (.int .i64 i))] [(0, .row (ints ((l.take i).foldl (withS n) ([], false)).1) 1 3)]) (fun i => l.length - i) 0 (by omega) ?_ ?_
  · refine Ghost.trans (Ghost.name 5 1 3 rfl (by decide)) ?_
    have e0 : (l.take 0).foldl (withS n) ([], false) = ([], false) := rfl
    rw [e0]
    (apply Ghost.mk [(0, 4)] []; (case hdead => rfl); (case hinj => rfl); (case hV => (simp only [go_sem, *]) <;> (repeat' (first | refine And.intro ?_ ?_ | exact View.int (by first | rfl | omega | (simp; done) | (rw [wrap_i64] <;> (try simp only [Int.natCast_add]) <;> omega) | (simp [*]; done)) | exact .own rfl (by decide)))); (case hB => (simp only [go_sem, *]) <;> (repeat' (first | exact ⟨_, rfl, .rowE (by first | rfl | omega | (simp; done) | (rw [wrap_i64] <;> (try simp only [Int.natCast_add]) <;> omega) | (simp [*]; done))⟩))))
  · intro i hi
    by_cases hlt : i < l.length
    · have hlt' : (i : Int) < l.length := by omega
      obtain ⟨r', hst⟩ : ∃ r', (l.take (i + 1)).foldl (withS n) ([], false) = r' := ⟨_, rfl⟩
      have hst2 := hst
      rw [take_snocI l i hlt, List.foldl_append] at hst2
      have hln := withS_len n (l.take i) ([], false)
      have htl : (l.take i).length = i := List.length_take_of_le hi
      have hat := ints_at l i hlt
      generalize (l.take i).foldl (withS n) ([], false) = r at *
      obtain ⟨out, d⟩ := r
      generalize l.getD i 0 = v at *
      simp only [List.foldl_cons, List.foldl_nil, withS, List.length_nil] at hst2 hln
      dsimp only at *
      cases d
      · by_cases hv : n ≤ v
        · by_cases hvn : n < v
          · simp [hv, hvn] at hst2
            subst hst2
            have es := ints_snoc out n
            have es2 := ints_snoc (out ++ [n]) v
            rw [List.append_assoc] at es2
            repeat' (first
    | (apply Awp.sreg; (case hn => (simp only [List.length_cons, List.length_nil, Nat.reduceAdd] <;> rfl)))
    | (refine st_nil ?_)
    | (apply st_a; (case hc => rfl); (case he => (simp only [go_sem, *] <;> rfl)); (case hu => (simp only [updL_nil, updL_cons] <;> rfl)); (case hp => first | trivial | omega | (simp; done) | (simp; omega)))
    | (apply st_m; (case hc => rfl); (case hg => (simp only [go_sem, *] <;> rfl)); (case he => (intro hQz; (try simp only [wantB_t, wantB_f, Bool.and_eq_true, Bool.not_eq_true', Bool.not_true, Bool.not_false, and_true, true_and] at hQz); simp only [go_sem, *] <;> rfl)); (case hp => (intro hQz; (try simp only [wantB_t, wantB_f, Bool.and_eq_true, Bool.not_eq_true', Bool.or_eq_false_iff, decide_eq_true_eq, decide_eq_false_iff_not, beq_iff_eq, beq_eq_false_iff_ne, bne_iff_ne, bne_eq_false_iff_eq, Int.not_lt, Int.not_le, Int.ofNat_lt, Int.ofNat_le] at hQz); first | trivial | omega)))
    | (apply Awp.reg; (case hn => (simp only [List.length_cons, List.length_nil, Nat.reduceAdd] <;> rfl)))
    | (refine Awp.skip ?_; try simp only [go_sem, *])
    | refine Awp.block ?_
    | (apply Awp.cond; (case hc => (simp only [go_sem, *] <;> rfl)); all_goals (intro hg; (try simp only [Bool.not_true, Bool.not_false, reduceCtorEq] at hg)))
    | refine Awp.seq ?_)
            refine ⟨i + 1, by omega, by omega, ?_⟩
            (apply Ghost.mk [(0, 122)] []; (case hdead => rfl); (case hinj => rfl); (case hV => (simp only [go_sem, *]) <;> (repeat' (first | refine And.intro ?_ ?_ | exact View.int (by first | rfl | omega | (simp; done) | (rw [wrap_i64] <;> (try simp only [Int.natCast_add]) <;> omega) | (simp [*]; done)) | exact .own rfl (by decide)))); (case hB => (simp only [go_sem, *]) <;> (repeat' (first | exact ⟨_, rfl, .rowE (by first | rfl | omega | (simp; done) | (rw [wrap_i64] <;> (try simp only [Int.natCast_add]) <;> omega) | (simp [*]; done))⟩))))
          · simp [hv, hvn] at hst2
            subst hst2
            have es := ints_snoc out v
            repeat' (first
    | (apply Awp.sreg; (case hn => (simp only [List.length_cons, List.length_nil, Nat.reduceAdd] <;> rfl)))
    | (refine st_nil ?_)
    | (apply st_a; (case hc => rfl); (case he => (simp only [go_sem, *] <;> rfl)); (case hu => (simp only [updL_nil, updL_cons] <;> rfl)); (case hp => first | trivial | omega | (simp; done) | (simp; omega)))
    | (apply st_m; (case hc => rfl); (case hg => (simp only [go_sem, *] <;> rfl)); (case he => (intro hQz; (try simp only [wantB_t, wantB_f, Bool.and_eq_true, Bool.not_eq_true', Bool.not_true, Bool.not_false, and_true, true_and] at hQz); simp only [go_sem, *] <;> rfl)); (case hp => (intro hQz; (try simp only [wantB_t, wantB_f, Bool.and_eq_true, Bool.not_eq_true', Bool.or_eq_false_iff, decide_eq_true_eq, decide_eq_false_iff_not, beq_iff_eq, beq_eq_false_iff_ne, bne_iff_ne, bne_eq_false_iff_eq, Int.not_lt, Int.not_le, Int.ofNat_lt, Int.ofNat_le] at hQz); first | trivial | omega)))
    | (apply Awp.reg; (case hn => (simp only [List.length_cons, List.length_nil, Nat.reduceAdd] <;> rfl)))
    | (refine Awp.skip ?_; try simp only [go_sem, *])
    | refine Awp.block ?_
    | (apply Awp.cond; (case hc => (simp only [go_sem, *] <;> rfl)); all_goals (intro hg; (try simp only [Bool.not_true, Bool.not_false, reduceCtorEq] at hg)))
    | refine Awp.seq ?_)
            refine ⟨i + 1, by omega, by omega, ?_⟩
            (apply Ghost.mk [(0, 117)] []; (case hdead => rfl); (case hinj => rfl); (case hV => (simp only [go_sem, *]) <;> (repeat' (first | refine And.intro ?_ ?_ | exact View.int (by first | rfl | omega | (simp; done) | (rw [wrap_i64] <;> (try simp only [Int.natCast_add]) <;> omega) | (simp [*]; done)) | exact .own rfl (by decide)))); (case hB => (simp only [go_sem, *]) <;> (repeat' (first | exact ⟨_, rfl, .rowE (by first | rfl | omega | (simp; done) | (rw [wrap_i64] <;> (try simp only [Int.natCast_add]) <;> omega) | (simp [*]; done))⟩))))
        · simp [hv] at hst2
          subst hst2
          have es2 := ints_snoc out v
          repeat' (first
    | (apply Awp.sreg; (case hn => (simp only [List.length_cons, List.length_nil, Nat.reduceAdd] <;> rfl)))
    | (refine st_nil ?_)
    | (apply st_a; (case hc => rfl); (case he => (simp only [go_sem, *] <;> rfl)); (case hu => (simp only [updL_nil, updL_cons] <;> rfl)); (case hp => first | trivial | omega | (simp; done) | (simp; omega)))
    | (apply st_m; (case hc => rfl); (case hg => (simp only [go_sem, *] <;> rfl)); (case he => (intro hQz; (try simp only [wantB_t, wantB_f, Bool.and_eq_true, Bool.not_eq_true', Bool.not_true, Bool.not_false, and_true, true_and] at hQz); simp only [go_sem, *] <;> rfl)); (case hp => (intro hQz; (try simp only [wantB_t, wantB_f, Bool.and_eq_true, Bool.not_eq_true', Bool.or_eq_false_iff, decide_eq_true_eq, decide_eq_false_iff_not, beq_iff_eq, beq_eq_false_iff_ne, bne_iff_ne, bne_eq_false_iff_eq, Int.not_lt, Int.not_le, Int.ofNat_lt, Int.ofNat_le] at hQz); first | trivial | omega)))
    | (apply Awp.reg; (case hn => (simp only [List.length_cons, List.length_nil, Nat.reduceAdd] <;> rfl)))
    | (refine Awp.skip ?_; try simp only [go_sem, *])
    | refine Awp.block ?_
    | (apply Awp.cond; (case hc => (simp only [go_sem, *] <;> rfl)); all_goals (intro hg; (try simp only [Bool.not_true, Bool.not_false, reduceCtorEq] at hg)))
    | refine Awp.seq ?_)
          refine ⟨i + 1, by omega, by omega, ?_⟩
          (apply Ghost.mk [(0, 110)] []; (case hdead => rfl); (case hinj => rfl); (case hV => (simp only [go_sem, *]) <;> (repeat' (first | refine And.intro ?_ ?_ | exact View.int (by first | rfl | omega | (simp; done) | (rw [wrap_i64] <;> (try simp only [Int.natCast_add]) <;> omega) | (simp [*]; done)) | exact .own rfl (by decide)))); (case hB => (simp only [go_sem, *]) <;> (repeat' (first | exact ⟨_, rfl, .rowE (by first | rfl | omega | (simp; done) | (rw [wrap_i64] <;> (try simp only [Int.natCast_add]) <;> omega) | (simp [*]; done))⟩))))
      · simp at hst2
        subst hst2
        have es2 := ints_snoc out v
        repeat' (first
    | (apply Awp.sreg; (case hn => (simp only [List.length_cons, List.length_nil, Nat.reduceAdd] <;> rfl)))
    | (refine st_nil ?_)
    | (apply st_a; (case hc => rfl); (case he => (simp only [go_sem, *] <;> rfl)); (case hu => (simp only [updL_nil, updL_cons] <;> rfl)); (case hp => first | trivial | omega | (simp; done) | (simp; omega)))
    | (apply st_m; (case hc => rfl); (case hg => (simp only [go_sem, *] <;> rfl)); (case he => (intro hQz; (try simp only [wantB_t, wantB_f, Bool.and_eq_true, Bool.not_eq_true', Bool.not_true, Bool.not_false, and_true, true_and] at hQz); simp only [go_sem, *] <;> rfl)); (case hp => (intro hQz; (try simp only [wantB_t, wantB_f, Bool.and_eq_true, Bool.not_eq_true', Bool.or_eq_false_iff, decide_eq_true_eq, decide_eq_false_iff_not, beq_iff_eq, beq_eq_false_iff_ne, bne_iff_ne, bne_eq_false_iff_eq, Int.not_lt, Int.not_le, Int.ofNat_lt, Int.ofNat_le] at hQz); first | trivial)))
    | (apply Awp.reg; (case hn => (simp only [List.length_cons, List.length_nil, Nat.reduceAdd] <;> rfl)))
    | (refine Awp.skip ?_; try simp only [go_sem, *])
    | refine Awp.block ?_
    | (apply Awp.cond; (case hc => (simp only [go_sem, *] <;> rfl)); all_goals (intro hg; (try simp only [Bool.not_true, Bool.not_false, reduceCtorEq] at hg)))
    | refine Awp.seq ?_)
        refine ⟨i + 1, by omega, by omega, ?_⟩
        (apply Ghost.mk [(0, 110)] []; (case hdead => rfl); (case hinj => rfl); (case hV => (simp only [go_sem, *]) <;> (repeat' (first | refine And.intro ?_ ?_ | exact View.int (by first | rfl | omega | (simp; done) | (rw [wrap_i64] <;> (try simp only [Int.natCast_add]) <;> omega) | (simp [*]; done)) | exact .own rfl (by decide)))); (case hB => (simp only [go_sem, *]) <;> (repeat' (first | exact ⟨_, rfl, .rowE (by first | rfl | omega | (simp; done) | (rw [wrap_i64] <;> (try simp only [Int.natCast_add]) <;> omega) | (simp [*]; done))⟩))))
    · have hlt' : ¬ (i : Int) < l.length := by omega
      have e1 : l.take i = l := List.take_of_length_le (by omega)
      have hln := withS_len n l ([], false)
      unfold withZ
      rw [e1]
      generalize l.foldl (withS n) ([], false) = r at *
      obtain ⟨out, d⟩ := r
      simp only [List.length_nil] at hln
      cases d
      · have es := ints_snoc out n
        repeat' (first
    | (apply Awp.sreg; (case hn => (simp only [List.length_cons, List.length_nil, Nat.reduceAdd] <;> rfl)))
    | (refine st_nil ?_)
    | (apply st_a; (case hc => rfl); (case he => (simp only [go_sem, *] <;> rfl)); (case hu => (simp only [updL_nil, updL_cons] <;> rfl)); (case hp => first | trivial | (simp; done) | (simp; omega)))
    | (apply Awp.reg; (case hn => (simp only [List.length_cons, List.length_nil, Nat.reduceAdd] <;> rfl)))
    | (refine Awp.ret ?_; try simp only [go_sem, *])
    | (refine Awp.exit ?_; try simp only [go_sem, *])
    | (apply Awp.cond; (case hc => (simp only [go_sem, *] <;> rfl)); all_goals (intro hg; (try simp only [Bool.not_true, Bool.not_false, reduceCtorEq] at hg)))
    | refine Awp.seq ?_)
        exact ⟨99, rfl, rfl⟩
      · repeat' (first
    | (apply Awp.sreg; (case hn => (simp only [List.length_cons, List.length_nil, Nat.reduceAdd] <;> rfl)))
    | (refine st_nil ?_)
    | (apply st_a; (case hc => rfl); (case he => (simp only [go_sem, *] <;> rfl)); (case hu => (simp only [updL_nil, updL_cons] <;> rfl)); (case hp => first | trivial))
    | (refine Awp.ret ?_; try simp only [go_sem, *])
    | (refine Awp.skip ?_; try simp only [go_sem, *])
    | (refine Awp.exit ?_; try simp only [go_sem, *])
    | (apply Awp.cond; (case hc => (simp only [go_sem, *] <;> rfl)); all_goals (intro hg; (try simp only [Bool.not_true, Bool.not_false, reduceCtorEq] at hg)))
    | refine Awp.seq ?_)
        exact ⟨0, rfl, rfl⟩
def inNm (nm : ByteArray) (b : Sty) : Bool := b.bay.toList == nm.toList
def floodL (l : List Sty) (nm : ByteArray) : List Int := (l.filter (inNm nm)).map (·.b)
def floodZ (l : List Sty) (nm : ByteArray) : List Int := Lib.compact (sortI (floodL l nm))
theorem floodL_len (l : List Sty) (nm : ByteArray) : (floodL l nm).length ≤ l.length := by
  have := List.length_filter_le (inNm nm) l
  simp [floodL]; omega
theorem floodZ_len (l : List Sty) (nm : ByteArray) : (floodZ l nm).length ≤ l.length := by
  unfold floodZ
  refine Nat.le_trans (compact_len _) ?_
  rw [sortI_len]
  exact floodL_len l nm
theorem floodL_step (l : List Sty) (nm : ByteArray) (i : Nat) (h : i < l.length) : floodL (l.take (i + 1)) nm = floodL (l.take i) nm ++ (if inNm nm (l.getD i zeroSty) = true then [(l.getD i zeroSty).b] else []) := by
  rw [take_snoc l zeroSty i h]
  unfold floodL
  rw [List.filter_append, List.map_append]
  congr 1
  by_cases hp : inNm nm (l.getD i zeroSty) = true
  · rw [if_pos hp, List.filter_cons_of_pos (by exact hp)]; rfl
  · rw [if_neg hp, List.filter_cons_of_neg (by exact hp)]; rfl
theorem floods_ok (l : List Sty) (nm : ByteArray) (hl : l.length < 900000) : PureOwn Tryz.prog 15 [.sl (stys l), .v (.string nm)] (ints (floodZ l nm)) 1 3 := by
  refine fn_own Tryz.F15 (Nat.le_of_ble_eq_true rfl) ?_; unfold Tryz.ac15
  repeat' (first
    | (apply Awp.sreg; (case hn => (simp only [List.length_cons, List.length_nil, Nat.reduceAdd] <;> rfl)))
    | (refine st_nil ?_)
    | (apply st_a; (case hc => rfl); (case he => (simp only [go_sem, *] <;> rfl)); (case hu => (simp only [updL_nil, updL_cons] <;> rfl)); (case hp => first | trivial))
    | refine Awp.block ?_
    | refine Awp.seq ?_)
  refine Awp.loop (fun i : Nat => i ≤ l.length) 50 (fun i => mkS [(1, .v (.string nm)), (5, .own 0), (8, .sl (stys l)), (9, .v (.int .i64 l.length)), (10, .v (.int .i64 i))] [(0, .row (ints (floodL (l.take i) nm)) 1 3)]) (fun i => l.length - i) 0 (by omega) ?_ ?_
  · refine Ghost.trans (Ghost.name 5 1 3 rfl (by decide)) ?_
    have e1 : floodL (l.take 0) nm = [] := rfl
    rw [e1]
    (apply Ghost.mk [(0, 5)] []; (case hdead => rfl); (case hinj => rfl); (case hV => (simp only [go_sem, *]) <;> (repeat' (first | refine And.intro ?_ ?_ | exact View.int (by first | rfl | omega | (simp; done) | (rw [wrap_i64] <;> (try simp only [Int.natCast_add]) <;> omega) | (simp [*]; done)) | exact .own rfl (by decide)))); (case hB => (simp only [go_sem, *]) <;> (repeat' (first | exact ⟨_, rfl, .rowE (by first | rfl | omega | (simp; done) | (rw [wrap_i64] <;> (try simp only [Int.natCast_add]) <;> omega) | (simp [*]; done))⟩))))
  · intro i hi
    by_cases hlt : i < l.length
    · have hlt' : (i : Int) < l.length := by omega
      have hat := stys_at l i hlt
      have hz : ((l.getD i zeroSty).cells).length = 8 := rfl
      have hst := floodL_step l nm i hlt
      have hln := floodL_len (l.take i) nm
      have htl : (l.take i).length = i := List.length_take_of_le hi
      cases hB : inNm nm (l.getD i zeroSty)
      · rw [hB] at hst
        simp only [Bool.false_eq_true, if_false, List.append_nil] at hst
        unfold inNm at hB
        repeat' (first
    | (apply Awp.sreg; (case hn => (simp only [List.length_cons, List.length_nil, Nat.reduceAdd] <;> rfl)))
    | (refine st_nil ?_)
    | (apply st_a; (case hc => rfl); (case he => (simp only [go_sem, *] <;> rfl)); (case hu => (simp only [updL_nil, updL_cons] <;> rfl)); (case hp => first | trivial | omega))
    | (apply Awp.reg; (case hn => (simp only [List.length_cons, List.length_nil, Nat.reduceAdd] <;> rfl)))
    | (refine Awp.skip ?_; try simp only [go_sem, *])
    | refine Awp.block ?_
    | (apply Awp.cond; (case hc => (simp only [go_sem, *] <;> rfl)); all_goals (intro hg; (try simp only [Bool.not_true, Bool.not_false, reduceCtorEq] at hg)))
    | refine Awp.seq ?_)
        refine ⟨i + 1, by omega, by omega, ?_⟩
        (apply Ghost.mk [] []; (case hdead => rfl); (case hinj => rfl); (case hV => (simp only [go_sem, *]) <;> (repeat' (first | refine And.intro ?_ ?_ | exact View.int (by first | rfl | omega | (simp; done) | (rw [wrap_i64] <;> (try simp only [Int.natCast_add]) <;> omega) | (simp [*]; done)) | exact .own rfl (by decide)))); (case hB => (simp only [go_sem, *]) <;> (repeat' (first | exact ⟨_, rfl, .rowE (by first | rfl | omega | (simp; done) | (rw [wrap_i64] <;> (try simp only [Int.natCast_add]) <;> omega) | (simp [*]; done))⟩))))
      · rw [hB] at hst
        simp only [if_true] at hst
        unfold inNm at hB
        repeat' (first
    | (apply Awp.sreg; (case hn => (simp only [List.length_cons, List.length_nil, Nat.reduceAdd] <;> rfl)))
    | (refine st_nil ?_)
    | (apply st_a; (case hc => rfl); (case he => (simp only [go_sem, *] <;> rfl)); (case hu => (simp only [updL_nil, updL_cons] <;> rfl)); (case hp => first | trivial | omega | (simp; done) | (simp; omega)))
    | (apply Awp.reg; (case hn => (simp only [List.length_cons, List.length_nil, Nat.reduceAdd] <;> rfl)))
    | (refine Awp.skip ?_; try simp only [go_sem, *])
    | refine Awp.block ?_
    | (apply Awp.cond; (case hc => (simp only [go_sem, *] <;> rfl)); all_goals (intro hg; (try simp only [Bool.not_true, Bool.not_false, reduceCtorEq] at hg)))
    | refine Awp.seq ?_)
        refine ⟨i + 1, by omega, by omega, ?_⟩
        (apply Ghost.mk [(0, 64)] []; (case hdead => rfl); (case hinj => rfl); (case hV => (simp only [go_sem, *]) <;> (repeat' (first | refine And.intro ?_ ?_ | exact View.int (by first | rfl | exact ints_snoc _ _ | omega | (simp; done) | (rw [wrap_i64] <;> (try simp only [Int.natCast_add]) <;> omega) | (simp [*]; done)) | exact .own rfl (by decide)))); (case hB => (simp only [go_sem, *]) <;> (repeat' (first | exact ⟨_, rfl, .rowE (by first | rfl | exact ints_snoc _ _ | omega | (simp; done) | (rw [wrap_i64] <;> (try simp only [Int.natCast_add]) <;> omega) | (simp [*]; done))⟩))))
    · have hlt' : ¬ (i : Int) < l.length := by omega
      have e1 : l.take i = l := List.take_of_length_le (by omega)
      have hln := floodL_len l nm
      have hs2 : (sortI (floodL l nm)).length < 1000000 := by rw [sortI_len]; omega
      repeat' (first
    | (apply Awp.sreg; (case hn => (simp only [List.length_cons, List.length_nil, Nat.reduceAdd] <;> rfl)))
    | (refine st_nil ?_)
    | (apply st_a; (case hc => rfl); (case he => (simp only [go_sem, *] <;> rfl)); (case hu => (simp only [updL_nil, updL_cons] <;> rfl)); (case hp => first | trivial))
    | (apply st_cc; (case hc => (simp only [go_sem, *] <;> rfl)); (case hcc => exact sort_cc (floodL l nm) _ _ 3 (by omega)); (case hh => (first | (simp only [List.mem_singleton, forall_eq]; first | (simp only [go_sem, *] <;> rfl) | (simp only [go_sem, *]; simp [ints])) | (intro p hp; cases hp; done) | (intro p hp; simp only [List.mem_cons, List.not_mem_nil, or_false] at hp; rcases hp with rfl | rfl | rfl | rfl | rfl | rfl | rfl <;> (simp only [go_sem, *] <;> rfl)) | (intro p hp; simp only [List.mem_cons, List.not_mem_nil, or_false] at hp; rcases hp with rfl | rfl | rfl | rfl <;> (simp only [go_sem, *] <;> rfl)))); (case hu => (first | (simp; done) | decide)); (case hm => (first | decide | (simp; done))); (case hw => (simp only [updL_nil, updL_cons] <;> rfl)))
    | (apply st_cc; (case hc => (simp only [go_sem, *] <;> rfl)); (case hcc => exact compact_cc (sortI (floodL l nm)) _ _ 3 (by decide) hs2); (case hh => (first | (simp only [List.mem_singleton, forall_eq]; first | (simp only [go_sem, *] <;> rfl) | (simp only [go_sem, *]; simp [ints])) | (intro p hp; cases hp; done) | (intro p hp; simp only [List.mem_cons, List.not_mem_nil, or_false] at hp; rcases hp with rfl | rfl | rfl | rfl | rfl | rfl | rfl <;> (simp only [go_sem, *] <;> rfl)) | (intro p hp; simp only [List.mem_cons, List.not_mem_nil, or_false] at hp; rcases hp with rfl | rfl | rfl | rfl <;> (simp only [go_sem, *] <;> rfl)))); (case hu => (first | (simp; done) | decide)); (case hm => (first | decide | (simp; done))); (case hw => (simp only [updL_nil, updL_cons] <;> rfl)))
    | (refine Awp.ret ?_; try simp only [go_sem, *])
    | (refine Awp.exit ?_; try simp only [go_sem, *])
    | (apply Awp.cond; (case hc => (simp only [go_sem, *] <;> rfl)); all_goals (intro hg; (try simp only [Bool.not_true, Bool.not_false, reduceCtorEq] at hg)))
    | refine Awp.seq ?_)
      exact ⟨54, rfl, rfl⟩
theorem floodZ_step (l : List Sty) (nm : ByteArray) (i : Nat) (h : i < l.length) (hp : inNm nm (l.getD i zeroSty) = true) : withZ (floodZ (l.take i) nm) (l.getD i zeroSty).b = floodZ (l.take (i + 1)) nm := by
  refine (with_step (floodL (l.take i) nm) _).trans ?_
  show _ = Lib.compact (sortZ _)
  rw [floodL_step l nm i h, if_pos hp]
theorem floodZ_same (l : List Sty) (nm : ByteArray) (i : Nat) (h : i < l.length) (hp : inNm nm (l.getD i zeroSty) = false) : floodZ (l.take (i + 1)) nm = floodZ (l.take i) nm := by
  unfold floodZ
  rw [floodL_step l nm i h, if_neg (by rw [hp]; simp), List.append_nil]
theorem rfloods_ok (l : List Sty) (nm : ByteArray) (hl : l.length < 300000) : PureOwn Tryz.prog 16 [.sl (stys l), .v (.string nm)] (ints (floodZ l nm)) 1 3 := by
  refine fn_own Tryz.F16 (Nat.le_of_ble_eq_true rfl) ?_; unfold Tryz.ac16
  repeat' (first
    | (apply Awp.sreg; (case hn => (simp only [List.length_cons, List.length_nil, Nat.reduceAdd] <;> rfl)))
    | (refine st_nil ?_)
    | (apply st_a; (case hc => rfl); (case he => (simp only [go_sem, *] <;> rfl)); (case hu => (simp only [updL_nil, updL_cons] <;> rfl)); (case hp => first | trivial))
    | refine Awp.block ?_
    | refine Awp.seq ?_)
  refine Awp.loop (fun i : Nat => i ≤ l.length) 50 (fun i => mkS [(0, .sl (stys l)), (1, .v (.string nm)), (5, .own 0), (6, .v (.int .i64 i))] [(0, .row (ints (floodZ (l.take i) nm)) 1 3)]) (fun i => l.length - i) 0 (by omega) ?_ ?_
  · refine Ghost.trans (Ghost.name 5 1 3 rfl (by decide)) ?_
    have e1 : floodZ (l.take 0) nm = [] := by show Lib.compact (sortI []) = []; decide +kernel
    rw [e1]
    (apply Ghost.mk [(0, 3)] []; (case hdead => rfl); (case hinj => rfl); (case hV => (simp only [go_sem, *]) <;> (repeat' (first | refine And.intro ?_ ?_ | exact View.int (by first | rfl | omega | (simp; done) | (rw [wrap_i64] <;> (try simp only [Int.natCast_add]) <;> omega) | (simp [*]; done)) | exact .own rfl (by decide)))); (case hB => (simp only [go_sem, *]) <;> (repeat' (first | exact ⟨_, rfl, .rowE (by first | rfl | omega | (simp; done) | (rw [wrap_i64] <;> (try simp only [Int.natCast_add]) <;> omega) | (simp [*]; done))⟩))))
  · intro i hi
    by_cases hlt : i < l.length
    · have hlt' : (i : Int) < l.length := by omega
      have hat := stys_at l i hlt
      have hz : ((l.getD i zeroSty).cells).length = 8 := rfl
      have hln := floodZ_len (l.take i) nm
      have htl : (l.take i).length = i := List.length_take_of_le hi
      cases hB : inNm nm (l.getD i zeroSty)
      · have e3 := floodZ_same l nm i hlt hB
        unfold inNm at hB
        repeat' (first
    | (apply Awp.sreg; (case hn => (simp only [List.length_cons, List.length_nil, Nat.reduceAdd] <;> rfl)))
    | (refine st_nil ?_)
    | (apply st_a; (case hc => rfl); (case he => (simp only [go_sem, *] <;> rfl)); (case hu => (simp only [updL_nil, updL_cons] <;> rfl)); (case hp => first | trivial | omega))
    | (apply Awp.reg; (case hn => (simp only [List.length_cons, List.length_nil, Nat.reduceAdd] <;> rfl)))
    | (refine Awp.skip ?_; try simp only [go_sem, *])
    | refine Awp.block ?_
    | (apply Awp.cond; (case hc => (simp only [go_sem, *] <;> rfl)); all_goals (intro hg; (try simp only [Bool.not_true, Bool.not_false, reduceCtorEq] at hg)))
    | refine Awp.seq ?_)
        refine ⟨i + 1, by omega, by omega, ?_⟩
        rw [e3]
        (apply Ghost.mk [] []; (case hdead => rfl); (case hinj => rfl); (case hV => (simp only [go_sem, *]) <;> (repeat' (first | refine And.intro ?_ ?_ | exact View.int (by first | rfl | omega | (simp; done) | (rw [wrap_i64] <;> (try simp only [Int.natCast_add]) <;> omega) | (simp [*]; done)) | exact .own rfl (by decide)))); (case hB => (simp only [go_sem, *]) <;> (repeat' (first | exact ⟨_, rfl, .rowE (by first | rfl | omega | (simp; done) | (rw [wrap_i64] <;> (try simp only [Int.natCast_add]) <;> omega) | (simp [*]; done))⟩))))
      · have p2 := with_ok (floodZ (l.take i) nm) (l.getD i zeroSty).b (by omega)
        rw [floodZ_step l nm i hlt hB] at p2
        unfold inNm at hB
        repeat' (first
    | (apply Awp.sreg; (case hn => (simp only [List.length_cons, List.length_nil, Nat.reduceAdd] <;> rfl)))
    | (refine st_nil ?_)
    | (apply st_a; (case hc => rfl); (case he => (simp only [go_sem, *] <;> rfl)); (case hu => (simp only [updL_nil, updL_cons] <;> rfl)); (case hp => first | trivial | omega))
    | (apply st_cod; (case hc => (simp only [go_sem, *] <;> rfl)); (case hl => (simp only [go_sem, *] <;> rfl)); (case hn => (simp only [go_sem, *] <;> rfl)); (case hp => first | exact p2 | (have hXz := p2; simp only [go_sem, *] at hXz; exact hXz)); (case hd => first | exact sps_dry _ | exact ints_dry _ | (repeat' (first | exact Dry.v _ | exact Dry.any | exact Dry.nils | exact Dry.slE | refine Dry.agg ?_ | refine Dry.tup ?_ | (refine List.forall_mem_cons.2 (And.intro ?_ ?_)) | (intro cQ hQ; cases hQ; done)))); (case hm => first | decide | (simp; done)))
    | (apply Awp.reg; (case hn => (simp only [List.length_cons, List.length_nil, Nat.reduceAdd] <;> rfl)))
    | (refine Awp.skip ?_; try simp only [go_sem, *])
    | refine Awp.block ?_
    | (apply Awp.cond; (case hc => (simp only [go_sem, *] <;> rfl)); all_goals (intro hg; (try simp only [Bool.not_true, Bool.not_false, reduceCtorEq] at hg)))
    | refine Awp.seq ?_)
        refine ⟨i + 1, by omega, by omega, ?_⟩
        (apply Ghost.mk [(0, 68)] []; (case hdead => rfl); (case hinj => rfl); (case hV => (simp only [go_sem, *]) <;> (repeat' (first | refine And.intro ?_ ?_ | exact View.int (by first | rfl | omega | (simp; done) | (rw [wrap_i64] <;> (try simp only [Int.natCast_add]) <;> omega) | (simp [*]; done)) | exact .own rfl (by decide)))); (case hB => (simp only [go_sem, *]) <;> (repeat' (first | exact ⟨_, rfl, .rowE (by first | rfl | omega | (simp; done) | (rw [wrap_i64] <;> (try simp only [Int.natCast_add]) <;> omega) | (simp [*]; done))⟩))))
    · have hlt' : ¬ (i : Int) < l.length := by omega
      have e1 : l.take i = l := List.take_of_length_le (by omega)
      repeat' (first
    | (apply Awp.sreg; (case hn => (simp only [List.length_cons, List.length_nil, Nat.reduceAdd] <;> rfl)))
    | (refine st_nil ?_)
    | (apply st_a; (case hc => rfl); (case he => (simp only [go_sem, *] <;> rfl)); (case hu => (simp only [updL_nil, updL_cons] <;> rfl)); (case hp => first | trivial))
    | (refine Awp.ret ?_; try simp only [go_sem, *])
    | (refine Awp.exit ?_; try simp only [go_sem, *])
    | (apply Awp.cond; (case hc => (simp only [go_sem, *] <;> rfl)); all_goals (intro hg; (try simp only [Bool.not_true, Bool.not_false, reduceCtorEq] at hg)))
    | refine Awp.seq ?_)
      exact ⟨0, rfl, rfl⟩
end Go.Proofs
end
section
set_option linter.unusedVariables false
set_option linter.unusedSimpArgs false
namespace Go.Proofs
open Go Go.Ab
set_option maxHeartbeats 8000000
set_option maxRecDepth 100000
set_option linter.unusedSimpArgs false
set_option linter.unusedVariables false
attribute [local irreducible] Awp aops aopsL Go.Ab.Pure PureOwn
theorem meet_ok (p q : Sty) : Pure Tryz.prog 64 [p.av, q.av] (.v (.bool (meetB p q))) := by
  refine fn_pure Tryz.F64 (Nat.le_of_ble_eq_true rfl) ?_; unfold Tryz.ac64
  repeat' (first
    | (apply Awp.sreg; (case hn => (simp only [List.length_cons, List.length_nil, Nat.reduceAdd] <;> rfl)))
    | (refine st_nil ?_)
    | (apply st_a; (case hc => rfl); (case he => (simp only [go_sem, *] <;> rfl)); (case hu => (simp only [updL_nil, updL_cons] <;> rfl)); (case hp => first | trivial))
    | (apply st_m; (case hc => rfl); (case hg => (simp only [go_sem, *] <;> rfl)); (case he => (intro hQz; (try simp only [wantB_t, wantB_f, Bool.and_eq_true, Bool.not_eq_true', Bool.not_true, Bool.not_false, and_true, true_and] at hQz); simp only [go_sem, *] <;> rfl)); (case hp => (intro hQz; (try simp only [wantB_t, wantB_f, Bool.and_eq_true, Bool.not_eq_true', Bool.or_eq_false_iff, decide_eq_true_eq, decide_eq_false_iff_not, beq_iff_eq, beq_eq_false_iff_ne, bne_iff_ne, bne_eq_false_iff_eq, Int.not_lt, Int.not_le, Int.ofNat_lt, Int.ofNat_le] at hQz); first | trivial)))
    | (refine Awp.ret ?_; try simp only [go_sem, *]))
  all_goals repeat' (first | exact Lower.bool (by first | rfl | (simp only [meetB, Bool.true_and, Bool.false_and, Bool.and_true, Bool.and_false, Bool.true_or, Bool.false_or, reduceIte, Bool.false_eq_true, *]; done) | (simp only [meetB, reduceIte, Bool.false_eq_true, *] <;> rfl) | (simp [meetB]; done) | (simp_all [meetB]; done) | omega))
theorem meetC_ok (p q : Sty) : Pure Tryz.prog 63 [q.av, .rp p.cells] (.v (.bool (meetB p q))) := by
  refine fn_pure Tryz.F63 (Nat.le_of_ble_eq_true rfl) ?_; unfold Tryz.ac63
  repeat' (first
    | (apply Awp.sreg; (case hn => (simp only [List.length_cons, List.length_nil, Nat.reduceAdd] <;> rfl)))
    | (refine st_nil ?_)
    | (apply st_a; (case hc => rfl); (case he => (simp only [go_sem, *] <;> rfl)); (case hu => (simp only [updL_nil, updL_cons] <;> rfl)); (case hp => first | trivial))
    | (apply st_c; (case hc => (simp only [go_sem, *] <;> rfl)); (case hl => (simp only [go_sem, *] <;> rfl)); (case hn => (simp only [go_sem, *] <;> rfl)); (case hp => first | exact meet_ok _ _ | (have hXz := meet_ok _ _; simp only [go_sem, *] at hXz; exact hXz)))
    | (refine Awp.ret ?_; try simp only [go_sem, *]))
  all_goals repeat' (first | exact Lower.bool (by first | rfl | (simp only [true_and, Bool.true_and, Bool.false_and, Bool.and_true, Bool.and_false, Bool.true_or, Bool.false_or, reduceIte, Bool.false_eq_true, *]; done) | (simp only [true_and, reduceIte, Bool.false_eq_true, *] <;> rfl) | (simp [true_and]; done) | (simp_all [true_and]; done) | omega))
def boxZ : List AV := zeroSty.cells
theorem beside_len (d : By) (l : List Sty) (x : Sty) : (besideL d l x).length ≤ l.length := List.length_filter_le _ _
theorem beside_step (d : By) (l : List Sty) (x : Sty) (i : Nat) (h : i < l.length) : besideL d (l.take (i + 1)) x = besideL d (l.take i) x ++ (if nearD d x (l.getD i zeroSty) = true then [l.getD i zeroSty] else []) := by
  rw [take_snoc l zeroSty i h]
  unfold besideL
  rw [List.filter_append]
  congr 1
  by_cases hp : nearD d x (l.getD i zeroSty) = true
  · rw [if_pos hp, List.filter_cons_of_pos (by exact hp)]; rfl
  · rw [if_neg hp, List.filter_cons_of_neg (by exact hp)]; rfl
def pl1 (d : By) (l : List Sty) (x : Sty) (near : List Sty) (xs ys : List Int) (i : Nat) : AState :=
  mkS [(3, .bp 0 0), (5, .bp 1 0), (6, .bp 2 0), (8, .own 3), (9, .own 4), (10, .own 5), (20, .sl (stys l)), (21, .v (.int .i64 l.length)), (22, .v (.int .i64 i))]
    [(0, .box d.cells), (1, .box x.cells), (2, .box boxZ), (3, .row (stys near) 8 43), (4, .row (ints xs) 1 3), (5, .row (ints ys) 1 3)]
def pl2 (d : By) (near : List Sty) (x : Sty) (xs ys : List Int) (q : Nat × (Int × Int)) : AState :=
  mkS [(3, .bp 0 0), (5, .bp 1 0), (6, .bp 2 0), (8, .own 3), (9, .own 4), (84, .own 5), (85, .v (.int .i64 ys.length)), (86, .v (.int .i64 q.1))]
    [(0, .box d.cells), (1, .box (x.at_ q.2.1 q.2.2).cells), (2, .box boxZ), (3, .row (stys near) 8 43), (4, .row (ints xs) 1 3), (5, .row (ints ys) 1 3)]
def pl3 (d : By) (near : List Sty) (x : Sty) (xs ys : List Int) (y : Int) (j : Nat) (q : Nat × (Int × Int)) : AState :=
  mkS [(3, .bp 0 0), (5, .bp 1 0), (6, .bp 2 0), (8, .own 3), (9, .own 4), (14, .v (.int .i64 y)), (84, .own 5), (85, .v (.int .i64 ys.length)), (86, .v (.int .i64 j)), (90, .own 4), (91, .v (.int .i64 xs.length)), (92, .v (.int .i64 q.1))]
    [(0, .box d.cells), (1, .box (x.at_ q.2.1 q.2.2).cells), (2, .box boxZ), (3, .row (stys near) 8 43), (4, .row (ints xs) 1 3), (5, .row (ints ys) 1 3)]
def plE : Option Sty → Sty × Bool
  | some y => (y, true)
  | none => (zeroSty, false)
theorem place_ok (d : By) (l : List Sty) (x : Sty) (hl : l.length < 90000) : Pure Tryz.prog 44 [d.av, .sl (stys l), x.av] (.tup [(plE (placeD d l x)).1.av, .v (.bool (plE (placeD d l x)).2)]) := by
  refine fn_pure Tryz.F44 (Nat.le_of_ble_eq_true rfl) ?_; unfold Tryz.ac44
  repeat' (first
    | (apply Awp.sreg; (case hn => (simp only [List.length_cons, List.length_nil, Nat.reduceAdd] <;> rfl)))
    | (refine st_nil ?_)
    | (apply st_a; (case hc => rfl); (case he => (simp only [go_sem, *] <;> rfl)); (case hu => (simp only [updL_nil, updL_cons] <;> rfl)); (case hp => first | trivial | (simp; done)))
    | refine Awp.block ?_
    | refine Awp.seq ?_)
  refine Awp.loop (fun i : Nat => i ≤ l.length ∧ ∀ j, j < i → endBad d x (l.getD j zeroSty) = false) 100 (fun i => pl1 d l x (besideL d (l.take i) x) (xsD d (l.take i) x) (ysD d (l.take i) x) i) (fun i => l.length - i) 0 (by simp) ?_ ?_
  · refine Ghost.trans (Ghost.name 8 8 43 rfl (by decide)) ?_
    have e1 : xsD d (l.take 0) x = [0] := rfl
    have e2 : ysD d (l.take 0) x = [0] := rfl
    have e3 : besideL d (l.take 0) x = [] := rfl
    rw [e1, e2, e3]
    unfold pl1 boxZ
    (apply Ghost.mk [(3, 12), (4, 5), (5, 6)] []; (case hdead => rfl); (case hinj => rfl); (case hV => (simp only [go_sem, *]) <;> (repeat' (first | refine And.intro ?_ ?_ | exact View.int (by first | rfl | omega | (simp; done) | (rw [wrap_i64] <;> (try simp only [Int.natCast_add]) <;> omega) | (simp [*]; done)) | exact .bp rfl (by decide) | exact .own rfl (by decide)))); (case hB => (simp only [go_sem, *]) <;> (repeat' (first | refine And.intro ?_ ?_ | exact ⟨_, rfl, BView.boxF rfl⟩ | exact ⟨_, rfl, .rowE (by first | rfl | omega | (simp; done) | (rw [wrap_i64] <;> (try simp only [Int.natCast_add]) <;> omega) | (simp [*]; done))⟩))))
  · intro i ⟨hi, hj⟩
    by_cases hlt : i < l.length
    · have hlt' : (i : Int) < l.length := by omega
      have hat := stys_at l i hlt
      have hz : ((l.getD i zeroSty).cells).length = 8 := rfl
      have hst := beside_step d l x i hlt
      have hln := beside_len d (l.take i) x
      have htl : (l.take i).length = i := List.length_take_of_le hi
      have h1 := stys_one (besideL d (l.take i) x)
      cases hB : nearD d x (l.getD i zeroSty)
      · rw [hB] at hst
        simp only [Bool.false_eq_true, if_false, List.append_nil] at hst
        have hB' : ((!((l.getD i zeroSty).bay.toList == d.nm.toList)) || decide ((l.getD i zeroSty).b ≤ x.a) || decide (x.b ≤ (l.getD i zeroSty).a)) = true := by
          unfold nearD at hB
          simp only [Bool.and_eq_false_iff, beq_eq_false_iff_ne, decide_eq_false_iff_not] at hB
          simp only [Bool.or_eq_true, Bool.not_eq_true', beq_eq_false_iff_ne, decide_eq_true_eq]
          rcases hB with (hB | hB) | hB
          · exact .inl (.inl hB)
          · exact .inl (.inr (by omega))
          · exact .inr (by omega)
        have hb : endBad d x (l.getD i zeroSty) = false := by unfold endBad; rw [hB]; rfl
        have e2 : xsD d (l.take (i + 1)) x = xsD d (l.take i) x := by unfold xsD; rw [hst]
        have e3 : ysD d (l.take (i + 1)) x = ysD d (l.take i) x := by unfold ysD; rw [hst]
        clear hB
        unfold pl1 boxZ
        repeat' (first
    | (apply Awp.sreg; (case hn => (simp only [List.length_cons, List.length_nil, Nat.reduceAdd] <;> rfl)))
    | (refine st_nil ?_)
    | (apply st_a; (case hc => rfl); (case he => (simp only [go_sem, *] <;> rfl)); (case hu => (simp only [updL_nil, updL_cons] <;> rfl)); (case hp => first | trivial | omega))
    | (apply st_m; (case hc => rfl); (case hg => (simp only [go_sem, *] <;> rfl)); (case he => (intro hQz; (try simp only [wantB_t, wantB_f, Bool.and_eq_true, Bool.not_eq_true', Bool.not_true, Bool.not_false, and_true, true_and] at hQz); simp only [go_sem, *] <;> rfl)); (case hp => (intro hQz; (try simp only [wantB_t, wantB_f, Bool.and_eq_true, Bool.not_eq_true', Bool.or_eq_false_iff, decide_eq_true_eq, decide_eq_false_iff_not, beq_iff_eq, beq_eq_false_iff_ne, bne_iff_ne, bne_eq_false_iff_eq, Int.not_lt, Int.not_le, Int.ofNat_lt, Int.ofNat_le] at hQz); first | trivial)))
    | (apply Awp.reg; (case hn => (simp only [List.length_cons, List.length_nil, Nat.reduceAdd] <;> rfl)))
    | (refine Awp.skip ?_; try simp only [go_sem, *])
    | (refine Awp.exit ?_; try simp only [go_sem, *])
    | refine Awp.block ?_
    | (apply Awp.cond; (case hc => (simp only [go_sem, *] <;> rfl)); all_goals (intro hg; (try simp only [Bool.not_true, Bool.not_false, reduceCtorEq] at hg)))
    | refine Awp.seq ?_)
        refine ⟨i + 1, ⟨by omega, ltSucc hj hb⟩, by omega, ?_⟩
        rw [hst, e2, e3]
        (apply Ghost.mk [] []; (case hdead => rfl); (case hinj => rfl); (case hV => (simp only [go_sem, *]) <;> (repeat' (first | refine And.intro ?_ ?_ | exact View.int (by first | rfl | omega | (simp; done) | (rw [wrap_i64] <;> (try simp only [Int.natCast_add]) <;> omega) | (simp [*]; done)) | exact .bp rfl (by decide) | exact .own rfl (by decide)))); (case hB => (simp only [go_sem, *]) <;> (repeat' (first | refine And.intro ?_ ?_ | exact ⟨_, rfl, BView.boxF rfl⟩ | exact ⟨_, rfl, .rowE (by first | rfl | omega | (simp; done) | (rw [wrap_i64] <;> (try simp only [Int.natCast_add]) <;> omega) | (simp [*]; done))⟩))))
      · rw [hB] at hst
        simp only [if_true] at hst
        have hB' : ((!((l.getD i zeroSty).bay.toList == d.nm.toList)) || decide ((l.getD i zeroSty).b ≤ x.a) || decide (x.b ≤ (l.getD i zeroSty).a)) = false := by
          unfold nearD at hB
          simp only [Bool.and_eq_true, beq_iff_eq, decide_eq_true_eq] at hB
          simp only [Bool.or_eq_false_iff, Bool.not_eq_false', beq_iff_eq, decide_eq_false_iff_not]
          exact ⟨⟨hB.1.1, by omega⟩, by omega⟩
        cases hne : (l.getD i zeroSty).b != x.b
        · have hb : endBad d x (l.getD i zeroSty) = false := by unfold endBad; rw [hB, hne]; rfl
          have e2 : xsD d (l.take (i + 1)) x = xsD d (l.take i) x ++ [IntKind.i64.wrap ((l.getD i zeroSty).x + (l.getD i zeroSty).len)] := by unfold xsD; rw [hst]; simp
          have e3 : ysD d (l.take (i + 1)) x = ysD d (l.take i) x ++ [IntKind.i64.wrap ((l.getD i zeroSty).y + (l.getD i zeroSty).wid)] := by unfold ysD; rw [hst]; simp
          have hx1 : (xsD d (l.take i) x).length = (besideL d (l.take i) x).length + 1 := by simp [xsD]
          have hx2 : (ysD d (l.take i) x).length = (besideL d (l.take i) x).length + 1 := by simp [ysD]
          have e1 := stys_snoc (besideL d (l.take i) x) (l.getD i zeroSty)
          have e4 := ints_snoc (xsD d (l.take i) x) (IntKind.i64.wrap ((l.getD i zeroSty).x + (l.getD i zeroSty).len))
          have e5 := ints_snoc (ysD d (l.take i) x) (IntKind.i64.wrap ((l.getD i zeroSty).y + (l.getD i zeroSty).wid))
          rw [← hst] at e1
          rw [← e2] at e4
          rw [← e3] at e5
          clear hB e2 e3
          unfold pl1 boxZ
          repeat' (first
    | (apply Awp.sreg; (case hn => (simp only [List.length_cons, List.length_nil, Nat.reduceAdd] <;> rfl)))
    | (refine st_nil ?_)
    | (apply st_a; (case hc => rfl); (case he => (simp only [go_sem, *] <;> rfl)); (case hu => (simp only [updL_nil, updL_cons] <;> rfl)); (case hp => first | trivial | omega | (simp; done) | (simp; omega)))
    | (apply st_m; (case hc => rfl); (case hg => (simp only [go_sem, *] <;> rfl)); (case he => (intro hQz; (try simp only [wantB_t, wantB_f, Bool.and_eq_true, Bool.not_eq_true', Bool.not_true, Bool.not_false, and_true, true_and] at hQz); simp only [go_sem, *] <;> rfl)); (case hp => (intro hQz; (try simp only [wantB_t, wantB_f, Bool.and_eq_true, Bool.not_eq_true', Bool.or_eq_false_iff, decide_eq_true_eq, decide_eq_false_iff_not, beq_iff_eq, beq_eq_false_iff_ne, bne_iff_ne, bne_eq_false_iff_eq, Int.not_lt, Int.not_le, Int.ofNat_lt, Int.ofNat_le] at hQz); first | trivial)))
    | (apply Awp.reg; (case hn => (simp only [List.length_cons, List.length_nil, Nat.reduceAdd] <;> rfl)))
    | (refine Awp.skip ?_; try simp only [go_sem, *])
    | refine Awp.block ?_
    | (apply Awp.cond; (case hc => (simp only [go_sem, *] <;> rfl)); all_goals (intro hg; (try simp only [Bool.not_true, Bool.not_false, reduceCtorEq] at hg)))
    | refine Awp.seq ?_)
          refine ⟨i + 1, ⟨by omega, ltSucc hj hb⟩, by omega, ?_⟩
          (apply Ghost.mk [(3, 138), (4, 148), (5, 158)] []; (case hdead => rfl); (case hinj => rfl); (case hV => (simp only [go_sem, *]) <;> (repeat' (first | refine And.intro ?_ ?_ | exact View.int (by first | rfl | exact (stys_snoc _ _) | exact e4 | exact e5 | omega | (simp; done) | (rw [wrap_i64] <;> (try simp only [Int.natCast_add]) <;> omega) | (simp [*]; done)) | exact .bp rfl (by decide) | exact .own rfl (by decide)))); (case hB => (simp only [go_sem, *]) <;> (repeat' (first | refine And.intro ?_ ?_ | exact ⟨_, rfl, BView.boxF rfl⟩ | exact ⟨_, rfl, .rowE (by first | rfl | exact (stys_snoc _ _) | exact e4 | exact e5 | omega | (simp; done) | (rw [wrap_i64] <;> (try simp only [Int.natCast_add]) <;> omega) | (simp [*]; done))⟩))))
        · have hb : l.any (endBad d x) = true := any_in (d := zeroSty) hlt (by unfold endBad; rw [hB, hne]; rfl)
          have hr : placeD d l x = none := by unfold placeD; rw [if_pos hb]
          rw [hr]
          clear hr hb hj hst
          unfold pl1 boxZ
          repeat' (first
    | (apply Awp.sreg; (case hn => (simp only [List.length_cons, List.length_nil, Nat.reduceAdd] <;> rfl)))
    | (refine st_nil ?_)
    | (apply st_a; (case hc => rfl); (case he => (simp only [go_sem, *] <;> rfl)); (case hu => (simp only [updL_nil, updL_cons] <;> rfl)); (case hp => first | trivial | omega))
    | (apply st_m; (case hc => rfl); (case hg => (simp only [go_sem, *] <;> rfl)); (case he => (intro hQz; (try simp only [wantB_t, wantB_f, Bool.and_eq_true, Bool.not_eq_true', Bool.not_true, Bool.not_false, and_true, true_and] at hQz); simp only [go_sem, *] <;> rfl)); (case hp => (intro hQz; (try simp only [wantB_t, wantB_f, Bool.and_eq_true, Bool.not_eq_true', Bool.or_eq_false_iff, decide_eq_true_eq, decide_eq_false_iff_not, beq_iff_eq, beq_eq_false_iff_ne, bne_iff_ne, bne_eq_false_iff_eq, Int.not_lt, Int.not_le, Int.ofNat_lt, Int.ofNat_le] at hQz); first | trivial)))
    | (refine Awp.ret ?_; try simp only [go_sem, *])
    | (refine Awp.skip ?_; try simp only [go_sem, *])
    | refine Awp.block ?_
    | (apply Awp.cond; (case hc => (simp only [go_sem, *] <;> rfl)); all_goals (intro hg; (try simp only [Bool.not_true, Bool.not_false, reduceCtorEq] at hg)))
    | refine Awp.seq ?_)
          all_goals repeat' (first | exact Lower.bool (by first | rfl | (simp only [plE, zeroSty, Bool.true_and, Bool.false_and, Bool.and_true, Bool.and_false, Bool.true_or, Bool.false_or, reduceIte, Bool.false_eq_true, *]; done) | (simp only [plE, zeroSty, reduceIte, Bool.false_eq_true, *] <;> rfl) | (simp [plE, zeroSty]; done) | (simp_all [plE, zeroSty]; done) | omega) | exact Lower.int (by first | rfl | (simp only [plE, zeroSty, Bool.true_and, Bool.false_and, Bool.and_true, Bool.and_false, Bool.true_or, Bool.false_or, reduceIte, Bool.false_eq_true, *]; done) | (simp only [plE, zeroSty, reduceIte, Bool.false_eq_true, *] <;> rfl) | (simp [plE, zeroSty]; done) | (simp_all [plE, zeroSty]; done) | omega) | exact Lower.str (by first | rfl | (simp only [plE, zeroSty, Bool.true_and, Bool.false_and, Bool.and_true, Bool.and_false, Bool.true_or, Bool.false_or, reduceIte, Bool.false_eq_true, *]; done) | (simp only [plE, zeroSty, reduceIte, Bool.false_eq_true, *] <;> rfl) | (simp [plE, zeroSty]; done) | (simp_all [plE, zeroSty]; done) | omega) | refine Lower.aggF ?_ | refine Lower.tupF ?_ | refine All2.cons ?_ ?_ | exact All2.nil)
    · have hlt' : ¬ (i : Int) < l.length := by omega
      have e1 : l.take i = l := List.take_of_length_le (by omega)
      have hnl := beside_len d l x
      have hno : l.any (endBad d x) = false := any_end (d := zeroSty) (Nat.le_of_not_lt hlt) hj
      have hr : placeD d l x = (scanE (okP d (besideL d l x) x) (sortI (ysD d l x)) (sortI (xsD d l x))).map fun o => x.at_ o.1 o.2 := by unfold placeD; rw [hno]; rfl
      rw [e1, hr]
      have hx1 : (xsD d l x).length = (besideL d l x).length + 1 := by simp [xsD]
      have hx2 : (ysD d l x).length = (besideL d l x).length + 1 := by simp [ysD]
      have hs1 := sort_cc (xsD d l x) 4 900 3 (by omega)
      clear hr hno hj e1
      unfold pl1 boxZ
      repeat' (first
    | (apply Awp.sreg; (case hn => (simp only [List.length_cons, List.length_nil, Nat.reduceAdd] <;> rfl)))
    | (refine st_nil ?_)
    | (apply st_a; (case hc => rfl); (case he => (simp only [go_sem, *] <;> rfl)); (case hu => (simp only [updL_nil, updL_cons] <;> rfl)); (case hp => first | trivial))
    | (apply st_cc; (case hc => (simp only [go_sem, *] <;> rfl)); (case hcc => exact sort_cc (xsD d l x) _ _ 3 (by omega)); (case hh => (first | (simp only [List.mem_singleton, forall_eq]; first | (simp only [go_sem, *] <;> rfl) | (simp only [go_sem, *]; simp [ints])) | (intro p hp; cases hp; done) | (intro p hp; simp only [List.mem_cons, List.not_mem_nil, or_false] at hp; rcases hp with rfl | rfl | rfl | rfl | rfl | rfl | rfl <;> (simp only [go_sem, *] <;> rfl)) | (intro p hp; simp only [List.mem_cons, List.not_mem_nil, or_false] at hp; rcases hp with rfl | rfl | rfl | rfl <;> (simp only [go_sem, *] <;> rfl)))); (case hu => (first | (simp; done) | decide)); (case hm => (first | decide | (simp; done))); (case hw => (simp only [updL_nil, updL_cons] <;> rfl)))
    | (apply st_cc; (case hc => (simp only [go_sem, *] <;> rfl)); (case hcc => exact sort_cc (ysD d l x) _ _ 3 (by omega)); (case hh => (first | (simp only [List.mem_singleton, forall_eq]; first | (simp only [go_sem, *] <;> rfl) | (simp only [go_sem, *]; simp [ints])) | (intro p hp; cases hp; done) | (intro p hp; simp only [List.mem_cons, List.not_mem_nil, or_false] at hp; rcases hp with rfl | rfl | rfl | rfl | rfl | rfl | rfl <;> (simp only [go_sem, *] <;> rfl)) | (intro p hp; simp only [List.mem_cons, List.not_mem_nil, or_false] at hp; rcases hp with rfl | rfl | rfl | rfl <;> (simp only [go_sem, *] <;> rfl)))); (case hu => (first | (simp; done) | decide)); (case hm => (first | decide | (simp; done))); (case hw => (simp only [updL_nil, updL_cons] <;> rfl)))
    | (refine Awp.exit ?_; try simp only [go_sem, *])
    | refine Awp.block ?_
    | (apply Awp.cond; (case hc => (simp only [go_sem, *] <;> rfl)); all_goals (intro hg; (try simp only [Bool.not_true, Bool.not_false, reduceCtorEq] at hg)))
    | refine Awp.seq ?_)
      have hs3 := sortI_len (xsD d l x)
      have hs4 := sortI_len (ysD d l x)
      obtain ⟨A, hA⟩ : ∃ A, sortI (ysD d l x) = A := ⟨_, rfl⟩
      obtain ⟨C, hC⟩ : ∃ C, sortI (xsD d l x) = C := ⟨_, rfl⟩
      obtain ⟨N, hN⟩ : ∃ N, besideL d l x = N := ⟨_, rfl⟩
      rw [hA, hC, hN]
      rw [hA] at hs4
      rw [hC] at hs3
      rw [hN] at hnl hx1 hx2
      rw [hx1] at hs3
      rw [hx2] at hs4
      have hAl : A.length ≤ 90001 := by omega
      have hCl : C.length ≤ 90001 := by omega
      clear hA hC hN hs1 hlt hlt' hi hx1 hx2 hs3 hs4
      refine Awp.loop (fun q : Nat × (Int × Int) => q.1 ≤ A.length ∧ ∀ j, j < q.1 → (C.find? fun X => okP d N x X (A.getD j 0)) = none) 200
        (fun q => pl2 d N x C A q) (fun q => A.length - q.1) (0, (x.x, x.y)) ⟨Nat.zero_le _, fun j hj => by simp at hj⟩ ?_ ?_
      · unfold pl2 boxZ Sty.at_
        (apply Ghost.mk [] []; (case hdead => rfl); (case hinj => rfl); (case hV => (simp only [go_sem, *]) <;> (repeat' (first | refine And.intro ?_ ?_ | exact View.int (by first | rfl | omega | (simp; done) | (rw [wrap_i64] <;> (try simp only [Int.natCast_add]) <;> omega) | (simp [*]; done)) | exact .bp rfl (by decide) | exact .own rfl (by decide)))); (case hB => (simp only [go_sem, *]) <;> (repeat' (first | refine And.intro ?_ ?_ | exact ⟨_, rfl, BView.boxF rfl⟩ | exact ⟨_, rfl, .rowE (by first | rfl | omega | (simp; done) | (rw [wrap_i64] <;> (try simp only [Int.natCast_add]) <;> omega) | (simp [*]; done))⟩))))
      · intro ⟨j, ⟨X0, Y0⟩⟩ ⟨hj, hn⟩
        dsimp only at hj hn
        by_cases hlt : j < A.length
        · have hlt' : (j : Int) < A.length := by omega
          have hat := ints_at A j hlt
          unfold pl2 boxZ
          repeat' (first
    | (apply Awp.sreg; (case hn => (simp only [List.length_cons, List.length_nil, Nat.reduceAdd] <;> rfl)))
    | (refine st_nil ?_)
    | (apply st_a; (case hc => rfl); (case he => (simp only [go_sem, *] <;> rfl)); (case hu => (simp only [updL_nil, updL_cons] <;> rfl)); (case hp => first | trivial | omega))
    | (refine Awp.skip ?_; try simp only [go_sem, *])
    | refine Awp.block ?_
    | (apply Awp.cond; (case hc => (simp only [go_sem, *] <;> rfl)); all_goals (intro hg; (try simp only [Bool.not_true, Bool.not_false, reduceCtorEq] at hg)))
    | refine Awp.seq ?_)
          refine Awp.loop (fun q : Nat × (Int × Int) => q.1 ≤ C.length ∧ ∀ i, i < q.1 → okP d N x (C.getD i 0) (A.getD j 0) = false) 300
            (fun q => pl3 d N x C A (A.getD j 0) j q) (fun q => C.length - q.1) (0, (X0, Y0)) ⟨Nat.zero_le _, fun i hi => by simp at hi⟩ ?_ ?_
          · unfold pl3 boxZ
            (apply Ghost.mk [] []; (case hdead => rfl); (case hinj => rfl); (case hV => (simp only [go_sem, *]) <;> (repeat' (first | refine And.intro ?_ ?_ | exact View.int (by first | rfl | omega | (simp; done) | (rw [wrap_i64] <;> (try simp only [Int.natCast_add]) <;> omega) | (simp [*]; done)) | exact .bp rfl (by decide) | exact .own rfl (by decide)))); (case hB => (simp only [go_sem, *]) <;> (repeat' (first | refine And.intro ?_ ?_ | exact ⟨_, rfl, BView.boxF rfl⟩ | exact ⟨_, rfl, .rowE (by first | rfl | omega | (simp; done) | (rw [wrap_i64] <;> (try simp only [Int.natCast_add]) <;> omega) | (simp [*]; done))⟩))))
          · intro ⟨k, ⟨X1, Y1⟩⟩ ⟨hk, hno⟩
            dsimp only at hk hno
            by_cases hkl : k < C.length
            · have hkl' : (k : Int) < C.length := by omega
              have hat2 := ints_at C k hkl
              have c0 := containsK_ok N 63 (x.at_ (C.getD k 0) (A.getD j 0)).cells (meetB (x.at_ (C.getD k 0) (A.getD j 0))) (by omega) (meetC_ok _)
              cases hpb : okP d N x (C.getD k 0) (A.getD j 0)
              · have hnx : ∀ i, i < k + 1 → okP d N x (C.getD i 0) (A.getD j 0) = false := ltSucc hno hpb
                unfold okP at hpb
                generalize N.any (meetB (x.at_ (C.getD k 0) (A.getD j 0))) = M at *
                generalize C.getD k 0 = X at *
                generalize A.getD j 0 = Y at *
                clear hno hn
                unfold pl3 boxZ Sty.at_ at *
                repeat' (first
    | (apply Awp.sreg; (case hn => (simp only [List.length_cons, List.length_nil, Nat.reduceAdd] <;> rfl)))
    | (refine st_nil ?_)
    | (apply st_a; (case hc => rfl); (case he => (simp only [go_sem, *] <;> rfl)); (case hu => (simp only [updL_nil, updL_cons] <;> rfl)); (case hp => first | trivial | omega))
    | (apply st_m; (case hc => rfl); (case hg => (simp only [go_sem, *] <;> rfl)); (case he => (intro hQz; (try simp only [wantB_t, wantB_f, Bool.and_eq_true, Bool.not_eq_true', Bool.not_true, Bool.not_false, and_true, true_and] at hQz); simp only [go_sem, *] <;> rfl)); (case hp => (intro hQz; (try simp only [wantB_t, wantB_f, Bool.and_eq_true, Bool.not_eq_true', Bool.or_eq_false_iff, decide_eq_true_eq, decide_eq_false_iff_not, beq_iff_eq, beq_eq_false_iff_ne, bne_iff_ne, bne_eq_false_iff_eq, Int.not_lt, Int.not_le, Int.ofNat_lt, Int.ofNat_le] at hQz); first | trivial)))
    | (apply st_cd; (case hc => (simp only [go_sem, *] <;> rfl)); (case hl => (simp only [go_sem, *] <;> rfl)); (case hn => (simp only [go_sem, *] <;> rfl)); (case hp => first | exact c0 | (have hXz := c0; simp only [go_sem, *] at hXz; exact hXz)); (case hd => first | exact .v _ | exact .any | exact .nils | (repeat' (first | exact Dry.v _ | exact Dry.any | exact Dry.nils | exact Dry.slE | refine Dry.agg ?_ | refine Dry.tup ?_ | (refine List.forall_mem_cons.2 (And.intro ?_ ?_)) | (intro cQ hQ; cases hQ; done)))); (case hm => first | decide | (simp; done)))
    | (apply Awp.reg; (case hn => (simp only [List.length_cons, List.length_nil, Nat.reduceAdd] <;> rfl)))
    | (refine Awp.skip ?_; try simp only [go_sem, *])
    | refine Awp.block ?_
    | (apply Awp.cond; (case hc => (simp only [go_sem, *] <;> rfl)); all_goals (intro hg; (try simp only [Bool.not_true, Bool.not_false, reduceCtorEq] at hg)))
    | refine Awp.seq ?_)
                refine ⟨(k + 1, (X, Y)), ⟨by dsimp only; omega, hnx⟩, by dsimp only; omega, ?_⟩
                (apply Ghost.mk [] []; (case hdead => rfl); (case hinj => rfl); (case hV => (simp only [go_sem, *]) <;> (repeat' (first | refine And.intro ?_ ?_ | exact View.int (by first | rfl | omega | (simp; done) | (rw [wrap_i64] <;> (try simp only [Int.natCast_add]) <;> omega) | (simp [*]; done)) | exact .bp rfl (by decide) | exact .own rfl (by decide)))); (case hB => (simp only [go_sem, *]) <;> (repeat' (first | refine And.intro ?_ ?_ | exact ⟨_, rfl, BView.boxF rfl⟩ | exact ⟨_, rfl, .rowE (by first | rfl | omega | (simp; done) | (rw [wrap_i64] <;> (try simp only [Int.natCast_add]) <;> omega) | (simp [*]; done))⟩))))
              · have hr := scan_hit (P := okP d N x) hlt hn (find_first (P := fun X => okP d N x X (A.getD j 0)) hkl hpb hno)
                rw [hr]
                simp only [Option.map_some]
                unfold okP at hpb
                clear hr hn hno
                generalize N.any (meetB (x.at_ (C.getD k 0) (A.getD j 0))) = M at *
                generalize C.getD k 0 = X at *
                generalize A.getD j 0 = Y at *
                unfold pl3 boxZ Sty.at_ at *
                repeat' (first
    | (apply Awp.sreg; (case hn => (simp only [List.length_cons, List.length_nil, Nat.reduceAdd] <;> rfl)))
    | (refine st_nil ?_)
    | (apply st_a; (case hc => rfl); (case he => (simp only [go_sem, *] <;> rfl)); (case hu => (simp only [updL_nil, updL_cons] <;> rfl)); (case hp => first | trivial | omega))
    | (apply st_m; (case hc => rfl); (case hg => (simp only [go_sem, *] <;> rfl)); (case he => (intro hQz; (try simp only [wantB_t, wantB_f, Bool.and_eq_true, Bool.not_eq_true', Bool.not_true, Bool.not_false, and_true, true_and] at hQz); simp only [go_sem, *] <;> rfl)); (case hp => (intro hQz; (try simp only [wantB_t, wantB_f, Bool.and_eq_true, Bool.not_eq_true', Bool.or_eq_false_iff, decide_eq_true_eq, decide_eq_false_iff_not, beq_iff_eq, beq_eq_false_iff_ne, bne_iff_ne, bne_eq_false_iff_eq, Int.not_lt, Int.not_le, Int.ofNat_lt, Int.ofNat_le] at hQz); first | trivial)))
    | (apply st_cd; (case hc => (simp only [go_sem, *] <;> rfl)); (case hl => (simp only [go_sem, *] <;> rfl)); (case hn => (simp only [go_sem, *] <;> rfl)); (case hp => first | exact c0 | (have hXz := c0; simp only [go_sem, *] at hXz; exact hXz)); (case hd => first | exact .v _ | exact .any | exact .nils | (repeat' (first | exact Dry.v _ | exact Dry.any | exact Dry.nils | exact Dry.slE | refine Dry.agg ?_ | refine Dry.tup ?_ | (refine List.forall_mem_cons.2 (And.intro ?_ ?_)) | (intro cQ hQ; cases hQ; done)))); (case hm => first | decide | (simp; done)))
    | (refine Awp.ret ?_; try simp only [go_sem, *])
    | (refine Awp.skip ?_; try simp only [go_sem, *])
    | refine Awp.block ?_
    | (apply Awp.cond; (case hc => (simp only [go_sem, *] <;> rfl)); all_goals (intro hg; (try simp only [Bool.not_true, Bool.not_false, reduceCtorEq] at hg)))
    | refine Awp.seq ?_)
                all_goals repeat' (first | exact Lower.bool (by first | rfl | (simp only [plE, Bool.true_and, Bool.false_and, Bool.and_true, Bool.and_false, Bool.true_or, Bool.false_or, reduceIte, Bool.false_eq_true, *]; done) | (simp only [plE, reduceIte, Bool.false_eq_true, *] <;> rfl) | (simp [plE]; done) | (simp_all [plE]; done) | omega) | exact Lower.int (by first | rfl | (simp only [plE, Bool.true_and, Bool.false_and, Bool.and_true, Bool.and_false, Bool.true_or, Bool.false_or, reduceIte, Bool.false_eq_true, *]; done) | (simp only [plE, reduceIte, Bool.false_eq_true, *] <;> rfl) | (simp [plE]; done) | (simp_all [plE]; done) | omega) | exact Lower.str (by first | rfl | (simp only [plE, Bool.true_and, Bool.false_and, Bool.and_true, Bool.and_false, Bool.true_or, Bool.false_or, reduceIte, Bool.false_eq_true, *]; done) | (simp only [plE, reduceIte, Bool.false_eq_true, *] <;> rfl) | (simp [plE]; done) | (simp_all [plE]; done) | omega) | refine Lower.aggF ?_ | refine Lower.tupF ?_ | refine All2.cons ?_ ?_ | exact All2.nil)
            · have hkl' : ¬ (k : Int) < C.length := by omega
              have hne := ltSucc hn (find_no (P := fun X => okP d N x X (A.getD j 0)) fun i hi => hno i (by omega))
              clear hn hno hat
              unfold pl3 boxZ
              repeat' (first
    | (apply Awp.sreg; (case hn => (simp only [List.length_cons, List.length_nil, Nat.reduceAdd] <;> rfl)))
    | (refine st_nil ?_)
    | (apply st_a; (case hc => rfl); (case he => (simp only [go_sem, *] <;> rfl)); (case hu => (simp only [updL_nil, updL_cons] <;> rfl)); (case hp => first | trivial))
    | (apply Awp.reg; (case hn => (simp only [List.length_cons, List.length_nil, Nat.reduceAdd] <;> rfl)))
    | (refine Awp.exit ?_; try simp only [go_sem, *])
    | (apply Awp.cond; (case hc => (simp only [go_sem, *] <;> rfl)); all_goals (intro hg; (try simp only [Bool.not_true, Bool.not_false, reduceCtorEq] at hg)))
    | refine Awp.seq ?_)
              refine ⟨(j + 1, (X1, Y1)), ⟨by dsimp only; omega, hne⟩, by dsimp only; omega, ?_⟩
              unfold Sty.at_
              (apply Ghost.mk [] []; (case hdead => rfl); (case hinj => rfl); (case hV => (simp only [go_sem, *]) <;> (repeat' (first | refine And.intro ?_ ?_ | exact View.int (by first | rfl | omega | (simp; done) | (rw [wrap_i64] <;> (try simp only [Int.natCast_add]) <;> omega) | (simp [*]; done)) | exact .bp rfl (by decide) | exact .own rfl (by decide)))); (case hB => (simp only [go_sem, *]) <;> (repeat' (first | refine And.intro ?_ ?_ | exact ⟨_, rfl, BView.boxF rfl⟩ | exact ⟨_, rfl, .rowE (by first | rfl | omega | (simp; done) | (rw [wrap_i64] <;> (try simp only [Int.natCast_add]) <;> omega) | (simp [*]; done))⟩))))
        · have hlt' : ¬ (j : Int) < A.length := by omega
          have hr := scan_no (P := okP d N x) (Nat.le_of_not_lt hlt) hn
          rw [hr]
          simp only [Option.map_none]
          clear hn hr
          unfold pl2 boxZ
          repeat' (first
    | (apply Awp.sreg; (case hn => (simp only [List.length_cons, List.length_nil, Nat.reduceAdd] <;> rfl)))
    | (refine st_nil ?_)
    | (apply st_a; (case hc => rfl); (case he => (simp only [go_sem, *] <;> rfl)); (case hu => (simp only [updL_nil, updL_cons] <;> rfl)); (case hp => first | trivial))
    | (refine Awp.ret ?_; try simp only [go_sem, *])
    | (refine Awp.exit ?_; try simp only [go_sem, *])
    | (apply Awp.cond; (case hc => (simp only [go_sem, *] <;> rfl)); all_goals (intro hg; (try simp only [Bool.not_true, Bool.not_false, reduceCtorEq] at hg)))
    | refine Awp.seq ?_)
          all_goals repeat' (first | exact Lower.bool (by first | rfl | (simp only [plE, zeroSty, Bool.true_and, Bool.false_and, Bool.and_true, Bool.and_false, Bool.true_or, Bool.false_or, reduceIte, Bool.false_eq_true, *]; done) | (simp only [plE, zeroSty, reduceIte, Bool.false_eq_true, *] <;> rfl) | (simp [plE, zeroSty]; done) | (simp_all [plE, zeroSty]; done) | omega) | exact Lower.int (by first | rfl | (simp only [plE, zeroSty, Bool.true_and, Bool.false_and, Bool.and_true, Bool.and_false, Bool.true_or, Bool.false_or, reduceIte, Bool.false_eq_true, *]; done) | (simp only [plE, zeroSty, reduceIte, Bool.false_eq_true, *] <;> rfl) | (simp [plE, zeroSty]; done) | (simp_all [plE, zeroSty]; done) | omega) | exact Lower.str (by first | rfl | (simp only [plE, zeroSty, Bool.true_and, Bool.false_and, Bool.and_true, Bool.and_false, Bool.true_or, Bool.false_or, reduceIte, Bool.false_eq_true, *]; done) | (simp only [plE, zeroSty, reduceIte, Bool.false_eq_true, *] <;> rfl) | (simp [plE, zeroSty]; done) | (simp_all [plE, zeroSty]; done) | omega) | refine Lower.aggF ?_ | refine Lower.tupF ?_ | refine All2.cons ?_ ?_ | exact All2.nil)
end Go.Proofs
end
section
set_option linter.unusedVariables false
set_option linter.unusedSimpArgs false
namespace Go.Proofs
open Go Go.Ab
set_option maxHeartbeats 8000000
set_option maxRecDepth 100000
set_option linter.unusedSimpArgs false
set_option linter.unusedVariables false
attribute [local irreducible] Awp aops aopsL Go.Ab.Pure PureOwn
def xsC (l : List Sty) (x : Sty) : List Int := Lib.compact (sortI (xsA l x))
def ysC (l : List Sty) (x : Sty) : List Int := Lib.compact (sortI (ysA l x))
def at1 (bs : List By) (l : List Sty) (x : Sty) (xs ys : List Int) (i : Nat) : AState :=
  mkS [(0, .sl (bys bs)), (1, .sl (stys l)), (5, .bp 0 0), (6, .bp 1 0), (8, .own 2), (9, .own 3), (10, .v (.int .i64 i))]
    [(0, .box x.cells), (1, .box boxZ), (2, .row (ints xs) 1 3), (3, .row (ints ys) 1 3)]
def at2 (bs : List By) (l : List Sty) (x : Sty) (xs ys : List Int) (q : Nat × (Int × Int)) : AState :=
  mkS [(0, .sl (bys bs)), (1, .sl (stys l)), (5, .bp 0 0), (6, .bp 1 0), (8, .own 2), (9, .own 3), (11, .v (.int .i64 q.1))]
    [(0, .box (x.at_ q.2.1 q.2.2).cells), (1, .box boxZ), (2, .row (ints xs) 1 3), (3, .row (ints ys) 1 3)]
def at3 (bs : List By) (l : List Sty) (x : Sty) (xs ys : List Int) (j : Nat) (q : Nat × (Int × Int)) : AState :=
  mkS [(0, .sl (bys bs)), (1, .sl (stys l)), (5, .bp 0 0), (6, .bp 1 0), (8, .own 2), (9, .own 3), (11, .v (.int .i64 j)), (12, .v (.int .i64 q.1))]
    [(0, .box (x.at_ q.2.1 q.2.2).cells), (1, .box boxZ), (2, .row (ints xs) 1 3), (3, .row (ints ys) 1 3)]
end Go.Proofs
end
section
set_option linter.unusedVariables false
set_option linter.unusedSimpArgs false
namespace Go.Proofs
open Go Go.Ab
set_option maxHeartbeats 8000000
set_option maxRecDepth 100000
set_option linter.unusedSimpArgs false
set_option linter.unusedVariables false
attribute [local irreducible] Awp aops aopsL Go.Ab.Pure PureOwn
theorem startsZ_len (l : List Sty) (fr : Int) : (startsZ l fr).length ≤ l.length + 1 := by
  unfold startsZ
  refine Nat.le_trans (compact_len _) ?_
  rw [sortI_len]
  exact endsL_len l fr
theorem from_ok (n a b : Int) : Pure Tryz.prog 42 [.v (.int .i64 n), .v (.int .i64 a), .v (.int .i64 b)] (.v (.bool (decide (a ≤ n) && decide (n ≤ b)))) := by
  refine fn_pure Tryz.F42 (Nat.le_of_ble_eq_true rfl) ?_; unfold Tryz.ac42
  repeat' (first
    | (apply Awp.sreg; (case hn => (simp only [List.length_cons, List.length_nil, Nat.reduceAdd] <;> rfl)))
    | (refine st_nil ?_)
    | (apply st_a; (case hc => rfl); (case he => (simp only [go_sem, *] <;> rfl)); (case hu => (simp only [updL_nil, updL_cons] <;> rfl)); (case hp => first | trivial))
    | (apply st_m; (case hc => rfl); (case hg => (simp only [go_sem, *] <;> rfl)); (case he => (intro hQz; (try simp only [wantB_t, wantB_f, Bool.and_eq_true, Bool.not_eq_true', Bool.not_true, Bool.not_false, and_true, true_and] at hQz); simp only [go_sem, *] <;> rfl)); (case hp => (intro hQz; (try simp only [wantB_t, wantB_f, Bool.and_eq_true, Bool.not_eq_true', Bool.or_eq_false_iff, decide_eq_true_eq, decide_eq_false_iff_not, beq_iff_eq, beq_eq_false_iff_ne, bne_iff_ne, bne_eq_false_iff_eq, Int.not_lt, Int.not_le, Int.ofNat_lt, Int.ofNat_le] at hQz); first | trivial)))
    | (refine Awp.ret ?_; try simp only [go_sem, *]))
  all_goals repeat' (first | exact Lower.bool (by first | rfl | (simp only [true_and, Bool.true_and, Bool.false_and, Bool.and_true, Bool.and_false, Bool.true_or, Bool.false_or, reduceIte, Bool.false_eq_true, *]; done) | (simp only [true_and, reduceIte, Bool.false_eq_true, *] <;> rfl) | (simp [true_and]; done) | (simp_all [true_and]; done) | omega))
theorem hullF_ok (b x : Sty) : Pure Tryz.prog 41 [x.av, .rp b.cells] (.v (.bool (x.item.toList == b.item.toList))) := by
  refine fn_pure Tryz.F41 (Nat.le_of_ble_eq_true rfl) ?_; unfold Tryz.ac41
  repeat' (first
    | (apply Awp.sreg; (case hn => (simp only [List.length_cons, List.length_nil, Nat.reduceAdd] <;> rfl)))
    | (refine st_nil ?_)
    | (apply st_a; (case hc => rfl); (case he => (simp only [go_sem, *] <;> rfl)); (case hu => (simp only [updL_nil, updL_cons] <;> rfl)); (case hp => first | trivial))
    | (refine Awp.ret ?_; try simp only [go_sem, *]))
  all_goals repeat' (first | exact Lower.bool (by first | rfl | (simp only [true_and, Bool.true_and, Bool.false_and, Bool.and_true, Bool.and_false, Bool.true_or, Bool.false_or, reduceIte, Bool.false_eq_true, *]; done) | (simp only [true_and, reduceIte, Bool.false_eq_true, *] <;> rfl) | (simp [true_and]; done) | (simp_all [true_and]; done) | omega))
def askd (x : Sty) (nm : ByteArray) (t e : Int) : Sty := ⟨x.item, nm, 0, 0, x.len, x.wid, t, e⟩
def hullB (nm : ByteArray) (q : Sty) : Bool := q.item.toList == nm.toList
def fitB (x : Sty) (h : Int) : Bool := !(decide (1 ≤ x.len) && decide (x.len ≤ 524288)) || !(decide (1 ≤ x.wid) && decide (x.wid ≤ 524288)) || !(decide (1 ≤ h) && decide (h ≤ 1048576)) || !(decide (0 ≤ x.a) && decide (x.a ≤ 1048576))
/-- What Fit returns, by what its search finds. -/
def fitH (bs : List By) (l : List Sty) (x : Sty) (h : Int) (o : Option Sty) : Sty × Int :=
  if dockE bs l != 0 then (zeroSty, dockE bs l) else if !idB x.item then (zeroSty, 6) else if l.any (hullB x.item) then (zeroSty, 7) else if fitB x h then (zeroSty, 9) else if decide ((128 : Int) ≤ l.length) then (zeroSty, 12) else
  match o with
  | some y => (y, 0)
  | none => (zeroSty, 18)
def tryP (l : List Sty) (x : Sty) (t : Int) (d : By) (e : Int) : Option Sty := if decide ((1048576 : Int) < e) then none else placeD d l (askd x d.nm t e)
def tryD (l : List Sty) (x : Sty) (h t : Int) (d : By) : Option Sty := (startsZ l (IntKind.i64.wrap (t + h))).findSome? (tryP l x t d)
def fitP (bs : List By) (l : List Sty) (x : Sty) (h : Int) : Option Sty := (startsZ l x.a).findSome? fun t => bs.findSome? (tryD l x h t)
def fp1 (bs : List By) (l : List Sty) (x : Sty) (h : Int) (S : List Int) (i : Nat) : AState :=
  mkS [(0, .sl (bys bs)), (1, .sl (stys l)), (3, .v (.int .i64 h)), (6, .bp 0 0), (8, .bp 1 0), (71, .own 2), (72, .v (.int .i64 S.length)), (73, .v (.int .i64 i))] [(0, .box x.cells), (1, .box boxZ), (2, .row (ints S) 1 3)]
def fp2 (bs : List By) (l : List Sty) (x : Sty) (h : Int) (S : List Int) (i : Nat) (t : Int) (k : Nat) : AState :=
  mkS [(0, .sl (bys bs)), (1, .sl (stys l)), (3, .v (.int .i64 h)), (6, .bp 0 0), (8, .bp 1 0), (12, .v (.int .i64 t)), (71, .own 2), (72, .v (.int .i64 S.length)), (73, .v (.int .i64 i)), (77, .sl (bys bs)), (78, .v (.int .i64 bs.length)), (79, .v (.int .i64 k))] [(0, .box x.cells), (1, .box boxZ), (2, .row (ints S) 1 3)]
def fp3 (bs : List By) (l : List Sty) (x : Sty) (h : Int) (S : List Int) (i : Nat) (t : Int) (k : Nat) (d : By) (E : List Int) (m : Nat) : AState :=
  mkS [(0, .sl (bys bs)), (1, .sl (stys l)), (3, .v (.int .i64 h)), (6, .bp 0 0), (8, .bp 1 0), (12, .v (.int .i64 t)), (14, .bp 3 0), (71, .own 2), (72, .v (.int .i64 S.length)), (73, .v (.int .i64 i)), (77, .sl (bys bs)), (78, .v (.int .i64 bs.length)), (79, .v (.int .i64 k)), (87, .own 4), (88, .v (.int .i64 E.length)), (89, .v (.int .i64 m))]
    [(0, .box x.cells), (1, .box boxZ), (2, .row (ints S) 1 3), (3, .box d.cells), (4, .row (ints E) 1 3)]
theorem fit_ok (bs : List By) (l : List Sty) (x : Sty) (h : Int) (hb : bs.length < 90000) (hl : l.length < 80000) : Pure Tryz.prog 20 [.sl (bys bs), .sl (stys l), x.av, .v (.int .i64 h)] (.tup [(fitH bs l x h (fitP bs l x h)).1.av, .v (.int .i64 (fitH bs l x h (fitP bs l x h)).2)]) := by
  have c0 := dcheck_ok bs l (by omega) (by omega)
  have c1 := isid_ok x.item
  have c2 : Pure Tryz.prog 28 [.sl (stys l), .fn 41 [.rp x.cells]] (.v (.bool (l.any (hullB x.item)))) := containsK_ok l 41 x.cells (hullB x.item) (by omega) (hullF_ok x)
  unfold fitH
  by_cases hC : dockE bs l = 0
  case neg =>
    have hC' : (dockE bs l != 0) = true := by simpa using hC
    rw [if_pos hC']
    generalize dockE bs l = e at *
    refine fn_pure Tryz.F20 (Nat.le_of_ble_eq_true rfl) ?_; unfold Tryz.ac20
    repeat' (first
    | (apply Awp.sreg; (case hn => (simp only [List.length_cons, List.length_nil, Nat.reduceAdd] <;> rfl)))
    | (refine st_nil ?_)
    | (apply st_a; (case hc => rfl); (case he => (simp only [go_sem, *] <;> rfl)); (case hu => (simp only [updL_nil, updL_cons] <;> rfl)); (case hp => first | trivial))
    | (apply st_c; (case hc => (simp only [go_sem, *] <;> rfl)); (case hl => (simp only [go_sem, *] <;> rfl)); (case hn => (simp only [go_sem, *] <;> rfl)); (case hp => first | exact c0 | (have hXz := c0; simp only [go_sem, *] at hXz; exact hXz)))
    | (refine Awp.ret ?_; try simp only [go_sem, *])
    | (apply Awp.cond; (case hc => (simp only [go_sem, *] <;> rfl)); all_goals (intro hg; (try simp only [Bool.not_true, Bool.not_false, reduceCtorEq] at hg)))
    | refine Awp.seq ?_)
    all_goals repeat' (first | exact Lower.int (by first | rfl | (simp only [zeroSty, Bool.true_and, Bool.false_and, Bool.and_true, Bool.and_false, Bool.true_or, Bool.false_or, reduceIte, Bool.false_eq_true, *]; done) | (simp only [zeroSty, reduceIte, Bool.false_eq_true, *] <;> rfl) | (simp [zeroSty]; done) | (simp_all [zeroSty]; done) | omega) | exact Lower.str (by first | rfl | (simp only [zeroSty, Bool.true_and, Bool.false_and, Bool.and_true, Bool.and_false, Bool.true_or, Bool.false_or, reduceIte, Bool.false_eq_true, *]; done) | (simp only [zeroSty, reduceIte, Bool.false_eq_true, *] <;> rfl) | (simp [zeroSty]; done) | (simp_all [zeroSty]; done) | omega) | refine Lower.aggF ?_ | refine Lower.tupF ?_ | refine All2.cons ?_ ?_ | exact All2.nil)
  rw [if_neg (by rw [hC]; simp)]
  rw [hC] at c0
  cases h1 : idB x.item
  · rw [if_pos (by simp)]
    refine fn_pure Tryz.F20 (Nat.le_of_ble_eq_true rfl) ?_; unfold Tryz.ac20
    repeat' (first
    | (apply Awp.sreg; (case hn => (simp only [List.length_cons, List.length_nil, Nat.reduceAdd] <;> rfl)))
    | (refine st_nil ?_)
    | (apply st_a; (case hc => rfl); (case he => (simp only [go_sem, *] <;> rfl)); (case hu => (simp only [updL_nil, updL_cons] <;> rfl)); (case hp => first | trivial))
    | (apply st_c; (case hc => (simp only [go_sem, *] <;> rfl)); (case hl => (simp only [go_sem, *] <;> rfl)); (case hn => (simp only [go_sem, *] <;> rfl)); (case hp => first | exact c0 | (have hXz := c0; simp only [go_sem, *] at hXz; exact hXz)))
    | (apply st_c; (case hc => (simp only [go_sem, *] <;> rfl)); (case hl => (simp only [go_sem, *] <;> rfl)); (case hn => (simp only [go_sem, *] <;> rfl)); (case hp => first | exact c1 | (have hXz := c1; simp only [go_sem, *] at hXz; exact hXz)))
    | (refine Awp.ret ?_; try simp only [go_sem, *])
    | (refine Awp.skip ?_; try simp only [go_sem, *])
    | refine Awp.block ?_
    | (apply Awp.cond; (case hc => (simp only [go_sem, *] <;> rfl)); all_goals (intro hg; (try simp only [Bool.not_true, Bool.not_false, reduceCtorEq] at hg)))
    | refine Awp.seq ?_)
    all_goals repeat' (first | exact Lower.int (by first | rfl | (simp only [zeroSty, Bool.true_and, Bool.false_and, Bool.and_true, Bool.and_false, Bool.true_or, Bool.false_or, reduceIte, Bool.false_eq_true, *]; done) | (simp only [zeroSty, reduceIte, Bool.false_eq_true, *] <;> rfl) | (simp [zeroSty]; done) | (simp_all [zeroSty]; done) | omega) | exact Lower.str (by first | rfl | (simp only [zeroSty, Bool.true_and, Bool.false_and, Bool.and_true, Bool.and_false, Bool.true_or, Bool.false_or, reduceIte, Bool.false_eq_true, *]; done) | (simp only [zeroSty, reduceIte, Bool.false_eq_true, *] <;> rfl) | (simp [zeroSty]; done) | (simp_all [zeroSty]; done) | omega) | refine Lower.aggF ?_ | refine Lower.tupF ?_ | refine All2.cons ?_ ?_ | exact All2.nil)
  rw [if_neg (by simp)]
  rw [h1] at c1
  cases h3 : l.any (hullB x.item)
  case true =>
    rw [if_pos rfl]
    rw [h3] at c2
    refine fn_pure Tryz.F20 (Nat.le_of_ble_eq_true rfl) ?_; unfold Tryz.ac20
    repeat' (first
    | (apply Awp.sreg; (case hn => (simp only [List.length_cons, List.length_nil, Nat.reduceAdd] <;> rfl)))
    | (refine st_nil ?_)
    | (apply st_a; (case hc => rfl); (case he => (simp only [go_sem, *] <;> rfl)); (case hu => (simp only [updL_nil, updL_cons] <;> rfl)); (case hp => first | trivial))
    | (apply st_c; (case hc => (simp only [go_sem, *] <;> rfl)); (case hl => (simp only [go_sem, *] <;> rfl)); (case hn => (simp only [go_sem, *] <;> rfl)); (case hp => first | exact c0 | (have hXz := c0; simp only [go_sem, *] at hXz; exact hXz)))
    | (apply st_c; (case hc => (simp only [go_sem, *] <;> rfl)); (case hl => (simp only [go_sem, *] <;> rfl)); (case hn => (simp only [go_sem, *] <;> rfl)); (case hp => first | exact c1 | (have hXz := c1; simp only [go_sem, *] at hXz; exact hXz)))
    | (apply st_cd; (case hc => (simp only [go_sem, *] <;> rfl)); (case hl => (simp only [go_sem, *] <;> rfl)); (case hn => (simp only [go_sem, *] <;> rfl)); (case hp => first | exact c2 | (have hXz := c2; simp only [go_sem, *] at hXz; exact hXz)); (case hd => first | exact .v _ | exact .any | exact .nils | (repeat' (first | exact Dry.v _ | exact Dry.any | exact Dry.nils | exact Dry.slE | refine Dry.agg ?_ | refine Dry.tup ?_ | (refine List.forall_mem_cons.2 (And.intro ?_ ?_)) | (intro cQ hQ; cases hQ; done)))); (case hm => first | decide | (simp; done)))
    | (refine Awp.ret ?_; try simp only [go_sem, *])
    | (refine Awp.skip ?_; try simp only [go_sem, *])
    | refine Awp.block ?_
    | (apply Awp.cond; (case hc => (simp only [go_sem, *] <;> rfl)); all_goals (intro hg; (try simp only [Bool.not_true, Bool.not_false, reduceCtorEq] at hg)))
    | refine Awp.seq ?_)
    all_goals repeat' (first | exact Lower.int (by first | rfl | (simp only [zeroSty, Bool.true_and, Bool.false_and, Bool.and_true, Bool.and_false, Bool.true_or, Bool.false_or, reduceIte, Bool.false_eq_true, *]; done) | (simp only [zeroSty, reduceIte, Bool.false_eq_true, *] <;> rfl) | (simp [zeroSty]; done) | (simp_all [zeroSty]; done) | omega) | exact Lower.str (by first | rfl | (simp only [zeroSty, Bool.true_and, Bool.false_and, Bool.and_true, Bool.and_false, Bool.true_or, Bool.false_or, reduceIte, Bool.false_eq_true, *]; done) | (simp only [zeroSty, reduceIte, Bool.false_eq_true, *] <;> rfl) | (simp [zeroSty]; done) | (simp_all [zeroSty]; done) | omega) | refine Lower.aggF ?_ | refine Lower.tupF ?_ | refine All2.cons ?_ ?_ | exact All2.nil)
  rw [if_neg (by simp)]
  rw [h3] at c2
  cases h2 : fitB x h
  case true =>
    rw [if_pos rfl]
    have hR := h2
    unfold fitB at hR
    clear h2
    refine fn_pure Tryz.F20 (Nat.le_of_ble_eq_true rfl) ?_; unfold Tryz.ac20
    repeat' (first
    | (apply Awp.sreg; (case hn => (simp only [List.length_cons, List.length_nil, Nat.reduceAdd] <;> rfl)))
    | (refine st_nil ?_)
    | (apply st_a; (case hc => rfl); (case he => (simp only [go_sem, *] <;> rfl)); (case hu => (simp only [updL_nil, updL_cons] <;> rfl)); (case hp => first | trivial))
    | (apply st_m; (case hc => rfl); (case hg => (simp only [go_sem, *] <;> rfl)); (case he => (intro hQz; (try simp only [wantB_t, wantB_f, Bool.and_eq_true, Bool.not_eq_true', Bool.not_true, Bool.not_false, and_true, true_and] at hQz); simp only [go_sem, *] <;> rfl)); (case hp => (intro hQz; (try simp only [wantB_t, wantB_f, Bool.and_eq_true, Bool.not_eq_true', Bool.or_eq_false_iff, decide_eq_true_eq, decide_eq_false_iff_not, beq_iff_eq, beq_eq_false_iff_ne, bne_iff_ne, bne_eq_false_iff_eq, Int.not_lt, Int.not_le, Int.ofNat_lt, Int.ofNat_le] at hQz); first | trivial)))
    | (apply st_c; (case hc => (simp only [go_sem, *] <;> rfl)); (case hl => (simp only [go_sem, *] <;> rfl)); (case hn => (simp only [go_sem, *] <;> rfl)); (case hp => first | exact c0 | (have hXz := c0; simp only [go_sem, *] at hXz; exact hXz)))
    | (apply st_c; (case hc => (simp only [go_sem, *] <;> rfl)); (case hl => (simp only [go_sem, *] <;> rfl)); (case hn => (simp only [go_sem, *] <;> rfl)); (case hp => first | exact c1 | (have hXz := c1; simp only [go_sem, *] at hXz; exact hXz)))
    | (apply st_cd; (case hc => (simp only [go_sem, *] <;> rfl)); (case hl => (simp only [go_sem, *] <;> rfl)); (case hn => (simp only [go_sem, *] <;> rfl)); (case hp => first | exact c2 | (have hXz := c2; simp only [go_sem, *] at hXz; exact hXz)); (case hd => first | exact .v _ | exact .any | exact .nils | (repeat' (first | exact Dry.v _ | exact Dry.any | exact Dry.nils | exact Dry.slE | refine Dry.agg ?_ | refine Dry.tup ?_ | (refine List.forall_mem_cons.2 (And.intro ?_ ?_)) | (intro cQ hQ; cases hQ; done)))); (case hm => first | decide | (simp; done)))
    | (apply st_mc; (case hop => rfl); (case hg => (simp only [go_sem, *] <;> rfl)); (case hc => (intro hQz; (try simp only [wantB_t, wantB_f, Bool.and_eq_true, Bool.not_eq_true', Bool.not_true, Bool.not_false, and_true, true_and] at hQz); simp only [go_sem, *] <;> rfl)); (case hl => (intro hQz; (try simp only [wantB_t, wantB_f, Bool.and_eq_true, Bool.not_eq_true', Bool.not_true, Bool.not_false, and_true, true_and] at hQz); simp only [go_sem, *] <;> rfl)); (case hn => (intro hQz; (try simp only [wantB_t, wantB_f, Bool.and_eq_true, Bool.not_eq_true', Bool.not_true, Bool.not_false, and_true, true_and] at hQz); simp only [go_sem, *] <;> rfl)); (case hp => intro hQz; first | exact from_ok _ _ _ | (have hXz := from_ok _ _ _; simp only [go_sem, *] at hXz; exact hXz)))
    | (apply st_c; (case hc => (simp only [go_sem, *] <;> rfl)); (case hl => (simp only [go_sem, *] <;> rfl)); (case hn => (simp only [go_sem, *] <;> rfl)); (case hp => first | exact from_ok _ _ _ | (have hXz := from_ok _ _ _; simp only [go_sem, *] at hXz; exact hXz)))
    | (refine Awp.ret ?_; try simp only [go_sem, *])
    | (refine Awp.skip ?_; try simp only [go_sem, *])
    | refine Awp.block ?_
    | (apply Awp.cond; (case hc => (simp only [go_sem, *] <;> rfl)); all_goals (intro hg; (try simp only [Bool.not_true, Bool.not_false, reduceCtorEq] at hg)))
    | refine Awp.seq ?_)
    all_goals repeat' (first | exact Lower.int (by first | rfl | (simp only [zeroSty, Bool.true_and, Bool.false_and, Bool.and_true, Bool.and_false, Bool.true_or, Bool.false_or, reduceIte, Bool.false_eq_true, *]; done) | (simp only [zeroSty, reduceIte, Bool.false_eq_true, *] <;> rfl) | (simp [zeroSty]; done) | (simp_all [zeroSty]; done) | omega) | exact Lower.str (by first | rfl | (simp only [zeroSty, Bool.true_and, Bool.false_and, Bool.and_true, Bool.and_false, Bool.true_or, Bool.false_or, reduceIte, Bool.false_eq_true, *]; done) | (simp only [zeroSty, reduceIte, Bool.false_eq_true, *] <;> rfl) | (simp [zeroSty]; done) | (simp_all [zeroSty]; done) | omega) | refine Lower.aggF ?_ | refine Lower.tupF ?_ | refine All2.cons ?_ ?_ | exact All2.nil)
  rw [if_neg (by simp)]
  have hR := h2
  unfold fitB at hR
  clear h2
  by_cases h4 : (128 : Int) ≤ l.length
  · rw [if_pos (by simpa using h4)]
    refine fn_pure Tryz.F20 (Nat.le_of_ble_eq_true rfl) ?_; unfold Tryz.ac20
    repeat' (first
    | (apply Awp.sreg; (case hn => (simp only [List.length_cons, List.length_nil, Nat.reduceAdd] <;> rfl)))
    | (refine st_nil ?_)
    | (apply st_a; (case hc => rfl); (case he => (simp only [go_sem, *] <;> rfl)); (case hu => (simp only [updL_nil, updL_cons] <;> rfl)); (case hp => first | trivial))
    | (apply st_m; (case hc => rfl); (case hg => (simp only [go_sem, *] <;> rfl)); (case he => (intro hQz; (try simp only [wantB_t, wantB_f, Bool.and_eq_true, Bool.not_eq_true', Bool.not_true, Bool.not_false, and_true, true_and] at hQz); simp only [go_sem, *] <;> rfl)); (case hp => (intro hQz; (try simp only [wantB_t, wantB_f, Bool.and_eq_true, Bool.not_eq_true', Bool.or_eq_false_iff, decide_eq_true_eq, decide_eq_false_iff_not, beq_iff_eq, beq_eq_false_iff_ne, bne_iff_ne, bne_eq_false_iff_eq, Int.not_lt, Int.not_le, Int.ofNat_lt, Int.ofNat_le] at hQz); first | trivial)))
    | (apply st_c; (case hc => (simp only [go_sem, *] <;> rfl)); (case hl => (simp only [go_sem, *] <;> rfl)); (case hn => (simp only [go_sem, *] <;> rfl)); (case hp => first | exact c0 | (have hXz := c0; simp only [go_sem, *] at hXz; exact hXz)))
    | (apply st_c; (case hc => (simp only [go_sem, *] <;> rfl)); (case hl => (simp only [go_sem, *] <;> rfl)); (case hn => (simp only [go_sem, *] <;> rfl)); (case hp => first | exact c1 | (have hXz := c1; simp only [go_sem, *] at hXz; exact hXz)))
    | (apply st_cd; (case hc => (simp only [go_sem, *] <;> rfl)); (case hl => (simp only [go_sem, *] <;> rfl)); (case hn => (simp only [go_sem, *] <;> rfl)); (case hp => first | exact c2 | (have hXz := c2; simp only [go_sem, *] at hXz; exact hXz)); (case hd => first | exact .v _ | exact .any | exact .nils | (repeat' (first | exact Dry.v _ | exact Dry.any | exact Dry.nils | exact Dry.slE | refine Dry.agg ?_ | refine Dry.tup ?_ | (refine List.forall_mem_cons.2 (And.intro ?_ ?_)) | (intro cQ hQ; cases hQ; done)))); (case hm => first | decide | (simp; done)))
    | (apply st_mc; (case hop => rfl); (case hg => (simp only [go_sem, *] <;> rfl)); (case hc => (intro hQz; (try simp only [wantB_t, wantB_f, Bool.and_eq_true, Bool.not_eq_true', Bool.not_true, Bool.not_false, and_true, true_and] at hQz); simp only [go_sem, *] <;> rfl)); (case hl => (intro hQz; (try simp only [wantB_t, wantB_f, Bool.and_eq_true, Bool.not_eq_true', Bool.not_true, Bool.not_false, and_true, true_and] at hQz); simp only [go_sem, *] <;> rfl)); (case hn => (intro hQz; (try simp only [wantB_t, wantB_f, Bool.and_eq_true, Bool.not_eq_true', Bool.not_true, Bool.not_false, and_true, true_and] at hQz); simp only [go_sem, *] <;> rfl)); (case hp => intro hQz; first | exact from_ok _ _ _ | (have hXz := from_ok _ _ _; simp only [go_sem, *] at hXz; exact hXz)))
    | (apply st_c; (case hc => (simp only [go_sem, *] <;> rfl)); (case hl => (simp only [go_sem, *] <;> rfl)); (case hn => (simp only [go_sem, *] <;> rfl)); (case hp => first | exact from_ok _ _ _ | (have hXz := from_ok _ _ _; simp only [go_sem, *] at hXz; exact hXz)))
    | (refine Awp.ret ?_; try simp only [go_sem, *])
    | (refine Awp.skip ?_; try simp only [go_sem, *])
    | refine Awp.block ?_
    | (apply Awp.cond; (case hc => (simp only [go_sem, *] <;> rfl)); all_goals (intro hg; (try simp only [Bool.not_true, Bool.not_false, reduceCtorEq] at hg)))
    | refine Awp.seq ?_)
    all_goals repeat' (first | exact Lower.int (by first | rfl | (simp only [zeroSty, Bool.true_and, Bool.false_and, Bool.and_true, Bool.and_false, Bool.true_or, Bool.false_or, reduceIte, Bool.false_eq_true, *]; done) | (simp only [zeroSty, reduceIte, Bool.false_eq_true, *] <;> rfl) | (simp [zeroSty]; done) | (simp_all [zeroSty]; done) | omega) | exact Lower.str (by first | rfl | (simp only [zeroSty, Bool.true_and, Bool.false_and, Bool.and_true, Bool.and_false, Bool.true_or, Bool.false_or, reduceIte, Bool.false_eq_true, *]; done) | (simp only [zeroSty, reduceIte, Bool.false_eq_true, *] <;> rfl) | (simp [zeroSty]; done) | (simp_all [zeroSty]; done) | omega) | refine Lower.aggF ?_ | refine Lower.tupF ?_ | refine All2.cons ?_ ?_ | exact All2.nil)
  rw [if_neg (by simpa using h4)]
  have c4 := starts_ok l x.a (by omega)
  have hSl := startsZ_len l x.a
  unfold fitP
  refine fn_pure Tryz.F20 (Nat.le_of_ble_eq_true rfl) ?_; unfold Tryz.ac20
  repeat' (first
    | (apply Awp.sreg; (case hn => (simp only [List.length_cons, List.length_nil, Nat.reduceAdd] <;> rfl)))
    | (refine st_nil ?_)
    | (apply st_a; (case hc => rfl); (case he => (simp only [go_sem, *] <;> rfl)); (case hu => (simp only [updL_nil, updL_cons] <;> rfl)); (case hp => first | trivial))
    | (apply st_m; (case hc => rfl); (case hg => (simp only [go_sem, *] <;> rfl)); (case he => (intro hQz; (try simp only [wantB_t, wantB_f, Bool.and_eq_true, Bool.not_eq_true', Bool.not_true, Bool.not_false, and_true, true_and] at hQz); simp only [go_sem, *] <;> rfl)); (case hp => (intro hQz; (try simp only [wantB_t, wantB_f, Bool.and_eq_true, Bool.not_eq_true', Bool.or_eq_false_iff, decide_eq_true_eq, decide_eq_false_iff_not, beq_iff_eq, beq_eq_false_iff_ne, bne_iff_ne, bne_eq_false_iff_eq, Int.not_lt, Int.not_le, Int.ofNat_lt, Int.ofNat_le] at hQz); first | trivial)))
    | (apply st_c; (case hc => (simp only [go_sem, *] <;> rfl)); (case hl => (simp only [go_sem, *] <;> rfl)); (case hn => (simp only [go_sem, *] <;> rfl)); (case hp => first | exact c0 | (have hXz := c0; simp only [go_sem, *] at hXz; exact hXz)))
    | (apply st_c; (case hc => (simp only [go_sem, *] <;> rfl)); (case hl => (simp only [go_sem, *] <;> rfl)); (case hn => (simp only [go_sem, *] <;> rfl)); (case hp => first | exact c1 | (have hXz := c1; simp only [go_sem, *] at hXz; exact hXz)))
    | (apply st_cd; (case hc => (simp only [go_sem, *] <;> rfl)); (case hl => (simp only [go_sem, *] <;> rfl)); (case hn => (simp only [go_sem, *] <;> rfl)); (case hp => first | exact c2 | (have hXz := c2; simp only [go_sem, *] at hXz; exact hXz)); (case hd => first | exact .v _ | exact .any | exact .nils | (repeat' (first | exact Dry.v _ | exact Dry.any | exact Dry.nils | exact Dry.slE | refine Dry.agg ?_ | refine Dry.tup ?_ | (refine List.forall_mem_cons.2 (And.intro ?_ ?_)) | (intro cQ hQ; cases hQ; done)))); (case hm => first | decide | (simp; done)))
    | (apply st_mc; (case hop => rfl); (case hg => (simp only [go_sem, *] <;> rfl)); (case hc => (intro hQz; (try simp only [wantB_t, wantB_f, Bool.and_eq_true, Bool.not_eq_true', Bool.not_true, Bool.not_false, and_true, true_and] at hQz); simp only [go_sem, *] <;> rfl)); (case hl => (intro hQz; (try simp only [wantB_t, wantB_f, Bool.and_eq_true, Bool.not_eq_true', Bool.not_true, Bool.not_false, and_true, true_and] at hQz); simp only [go_sem, *] <;> rfl)); (case hn => (intro hQz; (try simp only [wantB_t, wantB_f, Bool.and_eq_true, Bool.not_eq_true', Bool.not_true, Bool.not_false, and_true, true_and] at hQz); simp only [go_sem, *] <;> rfl)); (case hp => intro hQz; first | exact from_ok _ _ _ | (have hXz := from_ok _ _ _; simp only [go_sem, *] at hXz; exact hXz)))
    | (apply st_c; (case hc => (simp only [go_sem, *] <;> rfl)); (case hl => (simp only [go_sem, *] <;> rfl)); (case hn => (simp only [go_sem, *] <;> rfl)); (case hp => first | exact from_ok _ _ _ | (have hXz := from_ok _ _ _; simp only [go_sem, *] at hXz; exact hXz)))
    | (apply st_co; (case hc => (simp only [go_sem, *] <;> rfl)); (case hl => (simp only [go_sem, *] <;> rfl)); (case hn => (simp only [go_sem, *] <;> rfl)); (case hp => first | exact c4 | (have hXz := c4; simp only [go_sem, *] at hXz; exact hXz)))
    | (refine Awp.skip ?_; try simp only [go_sem, *])
    | refine Awp.block ?_
    | (apply Awp.cond; (case hc => (simp only [go_sem, *] <;> rfl)); all_goals (intro hg; (try simp only [Bool.not_true, Bool.not_false, reduceCtorEq] at hg)))
    | refine Awp.seq ?_)
  clear c0 c1 c2 c4 h1 h3 hR hC
  obtain ⟨S, hS⟩ : ∃ S, startsZ l x.a = S := ⟨_, rfl⟩
  rw [hS] at hSl ⊢
  refine Awp.loop (fun j : Nat => j ≤ S.length ∧ ∀ i, i < j → bs.findSome? (tryD l x h (S.getD i 0)) = none) 100
    (fun j => fp1 bs l x h S j) (fun j => S.length - j) 0 ⟨Nat.zero_le _, fun j hj => by simp at hj⟩ ?_ ?_
  · unfold fp1 boxZ
    (apply Ghost.mk [(2, 49)] []; (case hdead => rfl); (case hinj => rfl); (case hV => (simp only [go_sem, *]) <;> (repeat' (first | refine And.intro ?_ ?_ | exact View.int (by first | rfl | omega | (simp; done) | (rw [wrap_i64] <;> (try simp only [Int.natCast_add]) <;> omega) | (simp [*]; done)) | exact .bp rfl (by decide) | exact .own rfl (by decide)))); (case hB => (simp only [go_sem, *]) <;> (repeat' (first | refine And.intro ?_ ?_ | exact ⟨_, rfl, BView.boxF rfl⟩ | exact ⟨_, rfl, .rowE (by first | rfl | omega | (simp; done) | (rw [wrap_i64] <;> (try simp only [Int.natCast_add]) <;> omega) | (simp [*]; done))⟩))))
  · intro j ⟨hj, hno⟩
    by_cases hlt : j < S.length
    · have hlt' : (j : Int) < S.length := by omega
      have hat := ints_at S j hlt
      obtain ⟨t, ht⟩ : ∃ t, S.getD j 0 = t := ⟨_, rfl⟩
      rw [ht] at hat
      clear hS
      unfold fp1 boxZ
      repeat' (first
    | (apply Awp.sreg; (case hn => (simp only [List.length_cons, List.length_nil, Nat.reduceAdd] <;> rfl)))
    | (refine st_nil ?_)
    | (apply st_a; (case hc => rfl); (case he => (simp only [go_sem, *] <;> rfl)); (case hu => (simp only [updL_nil, updL_cons] <;> rfl)); (case hp => first | trivial | omega))
    | (refine Awp.skip ?_; try simp only [go_sem, *])
    | refine Awp.block ?_
    | (apply Awp.cond; (case hc => (simp only [go_sem, *] <;> rfl)); all_goals (intro hg; (try simp only [Bool.not_true, Bool.not_false, reduceCtorEq] at hg)))
    | refine Awp.seq ?_)
      refine Awp.loop (fun k : Nat => k ≤ bs.length ∧ ∀ i, i < k → tryD l x h t (bs.getD i zeroBy) = none) 200
        (fun k => fp2 bs l x h S j t k) (fun k => bs.length - k) 0 ⟨Nat.zero_le _, fun j hj => by simp at hj⟩ ?_ ?_
      · unfold fp2 boxZ
        (apply Ghost.mk [] []; (case hdead => rfl); (case hinj => rfl); (case hV => (simp only [go_sem, *]) <;> (repeat' (first | refine And.intro ?_ ?_ | exact View.int (by first | rfl | omega | (simp; done) | (rw [wrap_i64] <;> (try simp only [Int.natCast_add]) <;> omega) | (simp [*]; done)) | exact .bp rfl (by decide) | exact .own rfl (by decide)))); (case hB => (simp only [go_sem, *]) <;> (repeat' (first | refine And.intro ?_ ?_ | exact ⟨_, rfl, BView.boxF rfl⟩ | exact ⟨_, rfl, .rowE (by first | rfl | omega | (simp; done) | (rw [wrap_i64] <;> (try simp only [Int.natCast_add]) <;> omega) | (simp [*]; done))⟩))))
      · intro k ⟨hk, hnk⟩
        by_cases hlk : k < bs.length
        · have hlk' : (k : Int) < bs.length := by omega
          have hatk := bys_at bs k hlk
          have hz : ((bs.getD k zeroBy).cells).length = 3 := rfl
          obtain ⟨d, hd⟩ : ∃ d, bs.getD k zeroBy = d := ⟨_, rfl⟩
          rw [hd] at hatk hz
          have c5 := starts_ok l (IntKind.i64.wrap (t + h)) (by omega)
          have hEl := startsZ_len l (IntKind.i64.wrap (t + h))
          have hD : tryD l x h t d = (startsZ l (IntKind.i64.wrap (t + h))).findSome? (tryP l x t d) := rfl
          have hnx : tryD l x h t d = none → ∀ i, i < k + 1 → tryD l x h t (bs.getD i zeroBy) = none := fun hp => ltSucc hnk (by rw [hd]; exact hp)
          have hyes : ∀ {y : Sty}, tryD l x h t d = some y → S.findSome? (fun t => bs.findSome? (tryD l x h t)) = some y := fun {y} hp => by
            refine fs_hit (d := 0) hlt hno ?_
            rw [ht]
            exact fs_hit hlk hnk (by rw [hd]; exact hp)
          unfold fp2 boxZ
          repeat' (first
    | (apply Awp.sreg; (case hn => (simp only [List.length_cons, List.length_nil, Nat.reduceAdd] <;> rfl)))
    | (refine st_nil ?_)
    | (apply st_a; (case hc => rfl); (case he => (simp only [go_sem, *] <;> rfl)); (case hu => (simp only [updL_nil, updL_cons] <;> rfl)); (case hp => first | trivial | omega))
    | (apply st_co; (case hc => (simp only [go_sem, *] <;> rfl)); (case hl => (simp only [go_sem, *] <;> rfl)); (case hn => (simp only [go_sem, *] <;> rfl)); (case hp => first | exact c5 | (have hXz := c5; simp only [go_sem, *] at hXz; exact hXz)))
    | (refine Awp.skip ?_; try simp only [go_sem, *])
    | refine Awp.block ?_
    | (apply Awp.cond; (case hc => (simp only [go_sem, *] <;> rfl)); all_goals (intro hg; (try simp only [Bool.not_true, Bool.not_false, reduceCtorEq] at hg)))
    | refine Awp.seq ?_)
          obtain ⟨E, hE⟩ : ∃ E, startsZ l (IntKind.i64.wrap (t + h)) = E := ⟨_, rfl⟩
          rw [hE] at hD hEl ⊢
          clear c5 hE
          refine Awp.loop (fun m : Nat => m ≤ E.length ∧ ∀ i, i < m → tryP l x t d (E.getD i 0) = none) 300
            (fun m => fp3 bs l x h S j t k d E m) (fun m => E.length - m) 0 ⟨Nat.zero_le _, fun j hj => by simp at hj⟩ ?_ ?_
          · unfold fp3 boxZ
            (apply Ghost.mk [(3, 203), (4, 209)] []; (case hdead => rfl); (case hinj => rfl); (case hV => (simp only [go_sem, *]) <;> (repeat' (first | refine And.intro ?_ ?_ | exact View.int (by first | rfl | omega | (simp; done) | (rw [wrap_i64] <;> (try simp only [Int.natCast_add]) <;> omega) | (simp [*]; done)) | exact .bp rfl (by decide) | exact .own rfl (by decide)))); (case hB => (simp only [go_sem, *]) <;> (repeat' (first | refine And.intro ?_ ?_ | exact ⟨_, rfl, BView.boxF rfl⟩ | exact ⟨_, rfl, .rowE (by first | rfl | omega | (simp; done) | (rw [wrap_i64] <;> (try simp only [Int.natCast_add]) <;> omega) | (simp [*]; done))⟩))))
          · intro m ⟨hm, hnm⟩
            by_cases hlm : m < E.length
            · have hlm' : (m : Int) < E.length := by omega
              have hatm := ints_at E m hlm
              obtain ⟨e, he⟩ : ∃ e, E.getD m 0 = e := ⟨_, rfl⟩
              rw [he] at hatm
              have hnm2 : tryP l x t d e = none → ∀ i, i < m + 1 → tryP l x t d (E.getD i 0) = none := fun hp => ltSucc hnm (by rw [he]; exact hp)
              have hyes2 : ∀ {y : Sty}, tryP l x t d e = some y → S.findSome? (fun t => bs.findSome? (tryD l x h t)) = some y := fun {y} hp => by
                refine hyes ?_
                rw [hD]
                exact fs_hit (d := 0) hlm hnm (by rw [he]; exact hp)
              have c6 := place_ok d l (askd x d.nm t e) (by omega)
              clear hno hnk hD hnx hyes hnm hd ht he
              cases hbig : decide ((1048576 : Int) < e)
              · have hty : tryP l x t d e = placeD d l (askd x d.nm t e) := by unfold tryP; rw [hbig]; rfl
                rw [hty] at hnm2
                rw [hty] at hyes2
                generalize placeD d l (askd x d.nm t e) = r at *
                clear hty
                cases r with
                | none =>
                  have hn2 := hnm2 rfl
                  clear hnm2 hyes2
                  simp only [plE] at c6
                  unfold fp3 boxZ askd at *
                  repeat' (first
    | (apply Awp.sreg; (case hn => (simp only [List.length_cons, List.length_nil, Nat.reduceAdd] <;> rfl)))
    | (refine st_nil ?_)
    | (apply st_a; (case hc => rfl); (case he => (simp only [go_sem, *] <;> rfl)); (case hu => (simp only [updL_nil, updL_cons] <;> rfl)); (case hp => first | trivial | omega))
    | (apply st_c; (case hc => (simp only [go_sem, *] <;> rfl)); (case hl => (simp only [go_sem, *] <;> rfl)); (case hn => (simp only [go_sem, *] <;> rfl)); (case hp => first | exact c6 | (have hXz := c6; simp only [go_sem, *] at hXz; exact hXz)))
    | (apply Awp.reg; (case hn => (simp only [List.length_cons, List.length_nil, Nat.reduceAdd] <;> rfl)))
    | (refine Awp.skip ?_; try simp only [go_sem, *])
    | refine Awp.block ?_
    | (apply Awp.cond; (case hc => (simp only [go_sem, *] <;> rfl)); all_goals (intro hg; (try simp only [Bool.not_true, Bool.not_false, reduceCtorEq] at hg)))
    | refine Awp.seq ?_)
                  refine ⟨m + 1, ⟨by omega, hn2⟩, by omega, ?_⟩
                  (apply Ghost.mk [] []; (case hdead => rfl); (case hinj => rfl); (case hV => (simp only [go_sem, *]) <;> (repeat' (first | refine And.intro ?_ ?_ | exact View.int (by first | rfl | omega | (simp; done) | (rw [wrap_i64] <;> (try simp only [Int.natCast_add]) <;> omega) | (simp [*]; done)) | exact .bp rfl (by decide) | exact .own rfl (by decide)))); (case hB => (simp only [go_sem, *]) <;> (repeat' (first | refine And.intro ?_ ?_ | exact ⟨_, rfl, BView.boxF rfl⟩ | exact ⟨_, rfl, .rowE (by first | rfl | omega | (simp; done) | (rw [wrap_i64] <;> (try simp only [Int.natCast_add]) <;> omega) | (simp [*]; done))⟩))))
                | some y =>
                  have hy2 := hyes2 rfl
                  rw [hy2]
                  clear hnm2 hyes2 hy2
                  simp only [plE] at c6
                  unfold fp3 boxZ askd at *
                  repeat' (first
    | (apply Awp.sreg; (case hn => (simp only [List.length_cons, List.length_nil, Nat.reduceAdd] <;> rfl)))
    | (refine st_nil ?_)
    | (apply st_a; (case hc => rfl); (case he => (simp only [go_sem, *] <;> rfl)); (case hu => (simp only [updL_nil, updL_cons] <;> rfl)); (case hp => first | trivial | omega))
    | (apply st_c; (case hc => (simp only [go_sem, *] <;> rfl)); (case hl => (simp only [go_sem, *] <;> rfl)); (case hn => (simp only [go_sem, *] <;> rfl)); (case hp => first | exact c6 | (have hXz := c6; simp only [go_sem, *] at hXz; exact hXz)))
    | (refine Awp.ret ?_; try simp only [go_sem, *])
    | (refine Awp.skip ?_; try simp only [go_sem, *])
    | refine Awp.block ?_
    | (apply Awp.cond; (case hc => (simp only [go_sem, *] <;> rfl)); all_goals (intro hg; (try simp only [Bool.not_true, Bool.not_false, reduceCtorEq] at hg)))
    | refine Awp.seq ?_)
                  all_goals repeat' (first | exact Lower.int (by first | rfl | (simp only [true_and, Bool.true_and, Bool.false_and, Bool.and_true, Bool.and_false, Bool.true_or, Bool.false_or, reduceIte, Bool.false_eq_true, *]; done) | (simp only [true_and, reduceIte, Bool.false_eq_true, *] <;> rfl) | (simp [true_and]; done) | (simp_all [true_and]; done) | omega) | exact Lower.str (by first | rfl | (simp only [true_and, Bool.true_and, Bool.false_and, Bool.and_true, Bool.and_false, Bool.true_or, Bool.false_or, reduceIte, Bool.false_eq_true, *]; done) | (simp only [true_and, reduceIte, Bool.false_eq_true, *] <;> rfl) | (simp [true_and]; done) | (simp_all [true_and]; done) | omega) | refine Lower.aggF ?_ | refine Lower.tupF ?_ | refine All2.cons ?_ ?_ | exact All2.nil)
              · have hn2 := hnm2 (by unfold tryP; rw [hbig]; rfl)
                clear hnm2 hyes2 c6
                unfold fp3 boxZ
                repeat' (first
    | (apply Awp.sreg; (case hn => (simp only [List.length_cons, List.length_nil, Nat.reduceAdd] <;> rfl)))
    | (refine st_nil ?_)
    | (apply st_a; (case hc => rfl); (case he => (simp only [go_sem, *] <;> rfl)); (case hu => (simp only [updL_nil, updL_cons] <;> rfl)); (case hp => first | trivial | omega))
    | (apply Awp.reg; (case hn => (simp only [List.length_cons, List.length_nil, Nat.reduceAdd] <;> rfl)))
    | (refine Awp.skip ?_; try simp only [go_sem, *])
    | (refine Awp.exit ?_; try simp only [go_sem, *])
    | refine Awp.block ?_
    | (apply Awp.cond; (case hc => (simp only [go_sem, *] <;> rfl)); all_goals (intro hg; (try simp only [Bool.not_true, Bool.not_false, reduceCtorEq] at hg)))
    | refine Awp.seq ?_)
                refine ⟨m + 1, ⟨by omega, hn2⟩, by omega, ?_⟩
                (apply Ghost.mk [] []; (case hdead => rfl); (case hinj => rfl); (case hV => (simp only [go_sem, *]) <;> (repeat' (first | refine And.intro ?_ ?_ | exact View.int (by first | rfl | omega | (simp; done) | (rw [wrap_i64] <;> (try simp only [Int.natCast_add]) <;> omega) | (simp [*]; done)) | exact .bp rfl (by decide) | exact .own rfl (by decide)))); (case hB => (simp only [go_sem, *]) <;> (repeat' (first | refine And.intro ?_ ?_ | exact ⟨_, rfl, BView.boxF rfl⟩ | exact ⟨_, rfl, .rowE (by first | rfl | omega | (simp; done) | (rw [wrap_i64] <;> (try simp only [Int.natCast_add]) <;> omega) | (simp [*]; done))⟩))))
            · have hlm' : ¬ (m : Int) < E.length := by omega
              have hn2 := hnx (by rw [hD]; exact fs_no (d := 0) (Nat.le_of_not_lt hlm) hnm)
              clear hno hnk hD hnx hyes hnm hd ht
              unfold fp3 boxZ
              repeat' (first
    | (apply Awp.sreg; (case hn => (simp only [List.length_cons, List.length_nil, Nat.reduceAdd] <;> rfl)))
    | (refine st_nil ?_)
    | (apply st_a; (case hc => rfl); (case he => (simp only [go_sem, *] <;> rfl)); (case hu => (simp only [updL_nil, updL_cons] <;> rfl)); (case hp => first | trivial))
    | (apply Awp.reg; (case hn => (simp only [List.length_cons, List.length_nil, Nat.reduceAdd] <;> rfl)))
    | (refine Awp.exit ?_; try simp only [go_sem, *])
    | (apply Awp.cond; (case hc => (simp only [go_sem, *] <;> rfl)); all_goals (intro hg; (try simp only [Bool.not_true, Bool.not_false, reduceCtorEq] at hg)))
    | refine Awp.seq ?_)
              refine ⟨k + 1, ⟨by omega, hn2⟩, by omega, ?_⟩
              (apply Ghost.mk [] []; (case hdead => rfl); (case hinj => rfl); (case hV => (simp only [go_sem, *]) <;> (repeat' (first | refine And.intro ?_ ?_ | exact View.int (by first | rfl | omega | (simp; done) | (rw [wrap_i64] <;> (try simp only [Int.natCast_add]) <;> omega) | (simp [*]; done)) | exact .bp rfl (by decide) | exact .own rfl (by decide)))); (case hB => (simp only [go_sem, *]) <;> (repeat' (first | refine And.intro ?_ ?_ | exact ⟨_, rfl, BView.boxF rfl⟩ | exact ⟨_, rfl, .rowE (by first | rfl | omega | (simp; done) | (rw [wrap_i64] <;> (try simp only [Int.natCast_add]) <;> omega) | (simp [*]; done))⟩))))
        · have hlk' : ¬ (k : Int) < bs.length := by omega
          have hn2 := ltSucc hno (by rw [ht]; exact fs_no (Nat.le_of_not_lt hlk) hnk)
          clear hno hnk hat ht
          unfold fp2 boxZ
          repeat' (first
    | (apply Awp.sreg; (case hn => (simp only [List.length_cons, List.length_nil, Nat.reduceAdd] <;> rfl)))
    | (refine st_nil ?_)
    | (apply st_a; (case hc => rfl); (case he => (simp only [go_sem, *] <;> rfl)); (case hu => (simp only [updL_nil, updL_cons] <;> rfl)); (case hp => first | trivial))
    | (apply Awp.reg; (case hn => (simp only [List.length_cons, List.length_nil, Nat.reduceAdd] <;> rfl)))
    | (refine Awp.exit ?_; try simp only [go_sem, *])
    | (apply Awp.cond; (case hc => (simp only [go_sem, *] <;> rfl)); all_goals (intro hg; (try simp only [Bool.not_true, Bool.not_false, reduceCtorEq] at hg)))
    | refine Awp.seq ?_)
          refine ⟨j + 1, ⟨by omega, hn2⟩, by omega, ?_⟩
          (apply Ghost.mk [] []; (case hdead => rfl); (case hinj => rfl); (case hV => (simp only [go_sem, *]) <;> (repeat' (first | refine And.intro ?_ ?_ | exact View.int (by first | rfl | omega | (simp; done) | (rw [wrap_i64] <;> (try simp only [Int.natCast_add]) <;> omega) | (simp [*]; done)) | exact .bp rfl (by decide) | exact .own rfl (by decide)))); (case hB => (simp only [go_sem, *]) <;> (repeat' (first | refine And.intro ?_ ?_ | exact ⟨_, rfl, BView.boxF rfl⟩ | exact ⟨_, rfl, .rowE (by first | rfl | omega | (simp; done) | (rw [wrap_i64] <;> (try simp only [Int.natCast_add]) <;> omega) | (simp [*]; done))⟩))))
    · have hlt' : ¬ (j : Int) < S.length := by omega
      have hn2 : S.findSome? (fun t => bs.findSome? (tryD l x h t)) = none := fs_no (d := 0) (Nat.le_of_not_lt hlt) hno
      rw [hn2]
      clear hno hn2 hS
      unfold fp1 boxZ
      repeat' (first
    | (apply Awp.sreg; (case hn => (simp only [List.length_cons, List.length_nil, Nat.reduceAdd] <;> rfl)))
    | (refine st_nil ?_)
    | (apply st_a; (case hc => rfl); (case he => (simp only [go_sem, *] <;> rfl)); (case hu => (simp only [updL_nil, updL_cons] <;> rfl)); (case hp => first | trivial))
    | (refine Awp.ret ?_; try simp only [go_sem, *])
    | (refine Awp.exit ?_; try simp only [go_sem, *])
    | (apply Awp.cond; (case hc => (simp only [go_sem, *] <;> rfl)); all_goals (intro hg; (try simp only [Bool.not_true, Bool.not_false, reduceCtorEq] at hg)))
    | refine Awp.seq ?_)
      all_goals repeat' (first | exact Lower.int (by first | rfl | (simp only [zeroSty, Bool.true_and, Bool.false_and, Bool.and_true, Bool.and_false, Bool.true_or, Bool.false_or, reduceIte, Bool.false_eq_true, *]; done) | (simp only [zeroSty, reduceIte, Bool.false_eq_true, *] <;> rfl) | (simp [zeroSty]; done) | (simp_all [zeroSty]; done) | omega) | exact Lower.str (by first | rfl | (simp only [zeroSty, Bool.true_and, Bool.false_and, Bool.and_true, Bool.and_false, Bool.true_or, Bool.false_or, reduceIte, Bool.false_eq_true, *]; done) | (simp only [zeroSty, reduceIte, Bool.false_eq_true, *] <;> rfl) | (simp [zeroSty]; done) | (simp_all [zeroSty]; done) | omega) | refine Lower.aggF ?_ | refine Lower.tupF ?_ | refine All2.cons ?_ ?_ | exact All2.nil)
end Go.Proofs
end
section
set_option linter.unusedVariables false
set_option linter.unusedSimpArgs false
namespace Go.Proofs
open Go Go.Ab
set_option maxHeartbeats 8000000
set_option maxRecDepth 100000
set_option linter.unusedSimpArgs false
set_option linter.unusedVariables false
attribute [local irreducible] Awp aops aopsL Go.Ab.Pure PureOwn
def endD (d : By) (fr : Int) (q : Sty) : Bool := (q.bay.toList == d.nm.toList) && decide (fr < q.b)
def endsD (l : List Sty) (d : By) (fr : Int) : List Int := fr :: (l.filter (endD d fr)).map (·.b)
def endsC (l : List Sty) (d : By) (fr : Int) : List Int := Lib.compact (sortI (endsD l d fr))
def tryA (bs : List By) (l : List Sty) (x : Sty) (t : Int) (d : By) (e : Int) : Option Sty := atD bs l (askd x d.nm t e)
def tryE (bs : List By) (l : List Sty) (x : Sty) (h t : Int) (d : By) : Option Sty := (endsC l d (IntKind.i64.wrap (t + h))).findSome? (tryA bs l x t d)
def fitR (bs : List By) (l : List Sty) (x : Sty) (h : Int) : Option Sty := (startsZ l x.a).findSome? fun t => bs.findSome? (tryE bs l x h t)
def fr0 (bs : List By) (l : List Sty) (x : Sty) (h : Int) (S : List Int) (i : Nat) : AState :=
  mkS [(0, .sl (bys bs)), (1, .sl (stys l)), (3, .v (.int .i64 h)), (6, .bp 0 0), (8, .bp 1 0), (11, .own 2), (12, .v (.int .i64 i))] [(0, .box x.cells), (1, .box boxZ), (2, .row (ints S) 1 3)]
def fr1 (bs : List By) (l : List Sty) (x : Sty) (h : Int) (S : List Int) (i : Nat) : AState :=
  mkS [(0, .sl (bys bs)), (1, .sl (stys l)), (3, .v (.int .i64 h)), (6, .bp 0 0), (8, .bp 1 0), (11, .own 2), (13, .v (.int .i64 i))] [(0, .box x.cells), (1, .box boxZ), (2, .row (ints S) 1 3)]
def fr2 (bs : List By) (l : List Sty) (x : Sty) (h : Int) (S : List Int) (i : Nat) (k : Nat) : AState :=
  mkS [(0, .sl (bys bs)), (1, .sl (stys l)), (3, .v (.int .i64 h)), (6, .bp 0 0), (8, .bp 1 0), (11, .own 2), (13, .v (.int .i64 i)), (14, .v (.int .i64 k))] [(0, .box x.cells), (1, .box boxZ), (2, .row (ints S) 1 3)]
def fr3 (bs : List By) (l : List Sty) (x : Sty) (h : Int) (S : List Int) (i : Nat) (k : Nat) (E : List Int) (m : Nat) : AState :=
  mkS [(0, .sl (bys bs)), (1, .sl (stys l)), (3, .v (.int .i64 h)), (6, .bp 0 0), (8, .bp 1 0), (11, .own 2), (13, .v (.int .i64 i)), (14, .v (.int .i64 k)), (15, .own 3), (16, .v (.int .i64 m))] [(0, .box x.cells), (1, .box boxZ), (2, .row (ints S) 1 3), (3, .row (ints E) 1 3)]
def fr4 (bs : List By) (l : List Sty) (x : Sty) (h : Int) (S : List Int) (i : Nat) (k : Nat) (E : List Int) (m : Nat) : AState :=
  mkS [(0, .sl (bys bs)), (1, .sl (stys l)), (3, .v (.int .i64 h)), (6, .bp 0 0), (8, .bp 1 0), (11, .own 2), (13, .v (.int .i64 i)), (14, .v (.int .i64 k)), (15, .own 3), (17, .v (.int .i64 m))] [(0, .box x.cells), (1, .box boxZ), (2, .row (ints S) 1 3), (3, .row (ints E) 1 3)]
end Go.Proofs
end
section
set_option linter.unusedVariables false
set_option linter.unusedSimpArgs false
namespace Go.Proofs
open Go Go.Ab
set_option maxHeartbeats 8000000
set_option maxRecDepth 100000
set_option linter.unusedSimpArgs false
set_option linter.unusedVariables false
attribute [local irreducible] Awp aops aopsL Go.Ab.Pure PureOwn
theorem sameI_ok (a : List Int) (hl : a.length < 1000000) : Pure Tryz.prog 14 [.sl (ints a), .sl (ints a)] (.v (.bool true)) := by
  have hn : ((a.length : Int) != a.length) = false := by simp
  refine fn_pure Tryz.F14 (Nat.le_of_ble_eq_true rfl) ?_; unfold Tryz.ac14
  repeat' (first
    | (apply Awp.sreg; (case hn => (simp only [List.length_cons, List.length_nil, Nat.reduceAdd] <;> rfl)))
    | (refine st_nil ?_)
    | (apply st_a; (case hc => rfl); (case he => (simp only [go_sem, *] <;> rfl)); (case hu => (simp only [updL_nil, updL_cons] <;> rfl)); (case hp => first | trivial))
    | (refine Awp.skip ?_; try simp only [go_sem, *])
    | refine Awp.block ?_
    | (apply Awp.cond; (case hc => (simp only [go_sem, *] <;> rfl)); all_goals (intro hg; (try simp only [Bool.not_true, Bool.not_false, reduceCtorEq] at hg)))
    | refine Awp.seq ?_)
  clear hn
  refine Awp.loop (fun i : Nat => i ≤ a.length) 60 (fun i => mkS [(0, .sl (ints a)), (1, .sl (ints a)), (5, .v (.int .i64 i))] []) (fun i => a.length - i) 0 (by omega) ?_ ?_
  · (apply Ghost.mk [] []; (case hdead => rfl); (case hinj => rfl); (case hV => (simp only [go_sem, *]) <;> (repeat' (first | exact View.int (by first | rfl | omega | (simp; done) | (rw [wrap_i64] <;> (try simp only [Int.natCast_add]) <;> omega) | (simp [*]; done))))); (case hB => (simp only [go_sem, *]) <;> (repeat' (first | skip; done))))
  · intro i hi
    by_cases hlt : i < a.length
    · have hlt' : (i : Int) < a.length := by omega
      have hat := ints_at a i hlt
      generalize a.getD i 0 = x at *
      have e1 : (x != x) = false := by simp
      repeat' (first
    | (apply Awp.sreg; (case hn => (simp only [List.length_cons, List.length_nil, Nat.reduceAdd] <;> rfl)))
    | (apply Awp.sdraw; (case hn => (simp only [List.length_cons, List.length_nil, Nat.reduceAdd] <;> rfl)))
    | (refine st_nil ?_)
    | (apply st_a; (case hc => rfl); (case he => (simp only [go_sem, *] <;> rfl)); (case hu => (simp only [updL_nil, updL_cons] <;> rfl)); (case hp => first | trivial))
    | (apply Awp.reg; (case hn => (simp only [List.length_cons, List.length_nil, Nat.reduceAdd] <;> rfl)))
    | (refine Awp.skip ?_; try simp only [go_sem, *])
    | refine Awp.block ?_
    | (apply Awp.cond; (case hc => (simp only [go_sem, *] <;> rfl)); all_goals (intro hg; (try simp only [Bool.not_true, Bool.not_false, reduceCtorEq] at hg)))
    | refine Awp.seq ?_
    | (apply sl_a; (case hc => rfl); (case he => (simp only [go_sem, *] <;> rfl)); (case hu => (simp only [updL_nil, updL_cons] <;> rfl)); (case hl => (simp only [List.map_cons, List.map_nil] <;> rfl)); (case hp => first | trivial | omega))
    | (refine sl_nil (And.intro (by first | exact drawOk_of (by decide +kernel) | (simp only [List.map_cons, List.map_nil]; exact drawOk_of (by decide +kernel)) | decide) ?_)))
      refine ⟨i + 1, by omega, by omega, ?_⟩
      (apply Ghost.mk [] []; (case hdead => rfl); (case hinj => rfl); (case hV => (simp only [go_sem, *]) <;> (repeat' (first | exact View.int (by first | rfl | omega | (simp; done) | (rw [wrap_i64] <;> (try simp only [Int.natCast_add]) <;> omega) | (simp [*]; done))))); (case hB => (simp only [go_sem, *]) <;> (repeat' (first | skip; done))))
    · have hlt' : ¬ (i : Int) < a.length := by omega
      repeat' (first
    | (apply Awp.sreg; (case hn => (simp only [List.length_cons, List.length_nil, Nat.reduceAdd] <;> rfl)))
    | (refine st_nil ?_)
    | (apply st_a; (case hc => rfl); (case he => (simp only [go_sem, *] <;> rfl)); (case hu => (simp only [updL_nil, updL_cons] <;> rfl)); (case hp => first | trivial))
    | (refine Awp.ret ?_; try simp only [go_sem, *])
    | (refine Awp.exit ?_; try simp only [go_sem, *])
    | (apply Awp.cond; (case hc => (simp only [go_sem, *] <;> rfl)); all_goals (intro hg; (try simp only [Bool.not_true, Bool.not_false, reduceCtorEq] at hg); (try have hg' := hg); (try simp only [decide_eq_true_eq, decide_eq_false_iff_not, Bool.and_eq_true, Bool.or_eq_false_iff, bne_iff_ne, bne_eq_false_iff_eq, beq_iff_eq, beq_eq_false_iff_ne, Int.not_lt, Int.not_le, Int.ofNat_lt, Int.ofNat_le, Int.natCast_inj] at hg')))
    | refine Awp.seq ?_)
      all_goals repeat' (first | exact Lower.bool (by first | rfl | (simp only [true_and, Bool.true_and, Bool.false_and, Bool.and_true, Bool.and_false, Bool.true_or, Bool.false_or, reduceIte, Bool.false_eq_true, *]; done) | (simp only [true_and, reduceIte, Bool.false_eq_true, *] <;> rfl) | (simp [true_and]; done) | (simp_all [true_and]; done) | omega))
def bigBy (q : By) : Bool := decide ((100 : Int) < q.nm.size)
def bigSty (q : Sty) : Bool := decide ((100 : Int) < q.item.size) || decide ((100 : Int) < q.bay.size)
def fewB (bs : List By) (l : List Sty) (m : Int) : Bool := !(decide ((9 : Int) < bs.length) || decide (m < l.length)) && !bs.any bigBy && !l.any bigSty
theorem few_ok (bs : List By) (l : List Sty) (m : Int) (hm : m < 1000) : Pure Tryz.prog 10 [.sl (bys bs), .sl (stys l), .v (.int .i64 m)] (.v (.bool (fewB bs l m))) := by
  unfold fewB
  cases h0 : (decide ((9 : Int) < bs.length) || decide (m < l.length))
  case true =>
    refine fn_pure Tryz.F10 (Nat.le_of_ble_eq_true rfl) ?_; unfold Tryz.ac10
    repeat' (first
    | (apply Awp.sreg; (case hn => (simp only [List.length_cons, List.length_nil, Nat.reduceAdd] <;> rfl)))
    | (refine st_nil ?_)
    | (apply st_a; (case hc => rfl); (case he => (simp only [go_sem, *] <;> rfl)); (case hu => (simp only [updL_nil, updL_cons] <;> rfl)); (case hp => first | trivial))
    | (apply st_m; (case hc => rfl); (case hg => (simp only [go_sem, *] <;> rfl)); (case he => (intro hQz; (try simp only [wantB_t, wantB_f, Bool.and_eq_true, Bool.not_eq_true', Bool.not_true, Bool.not_false, and_true, true_and] at hQz); simp only [go_sem, *] <;> rfl)); (case hp => (intro hQz; (try simp only [wantB_t, wantB_f, Bool.and_eq_true, Bool.not_eq_true', Bool.or_eq_false_iff, decide_eq_true_eq, decide_eq_false_iff_not, beq_iff_eq, beq_eq_false_iff_ne, bne_iff_ne, bne_eq_false_iff_eq, Int.not_lt, Int.not_le, Int.ofNat_lt, Int.ofNat_le] at hQz); first | trivial)))
    | (refine Awp.ret ?_; try simp only [go_sem, *])
    | (apply Awp.cond; (case hc => (simp only [go_sem, *] <;> rfl)); all_goals (intro hg; (try simp only [Bool.not_true, Bool.not_false, reduceCtorEq] at hg)))
    | refine Awp.seq ?_)
    all_goals repeat' (first | exact Lower.bool (by first | rfl | (simp only [true_and, Bool.true_and, Bool.false_and, Bool.and_true, Bool.and_false, Bool.true_or, Bool.false_or, reduceIte, Bool.false_eq_true, *]; done) | (simp only [true_and, reduceIte, Bool.false_eq_true, *] <;> rfl) | (simp [true_and]; done) | (simp_all [true_and]; done) | omega))
  have h9 : bs.length ≤ 9 ∧ (l.length : Int) ≤ m := by
    simp only [Bool.or_eq_false_iff, decide_eq_false_iff_not] at h0
    omega
  refine fn_pure Tryz.F10 (Nat.le_of_ble_eq_true rfl) ?_; unfold Tryz.ac10
  repeat' (first
    | (apply Awp.sreg; (case hn => (simp only [List.length_cons, List.length_nil, Nat.reduceAdd] <;> rfl)))
    | (refine st_nil ?_)
    | (apply st_a; (case hc => rfl); (case he => (simp only [go_sem, *] <;> rfl)); (case hu => (simp only [updL_nil, updL_cons] <;> rfl)); (case hp => first | trivial))
    | (apply st_m; (case hc => rfl); (case hg => (simp only [go_sem, *] <;> rfl)); (case he => (intro hQz; (try simp only [wantB_t, wantB_f, Bool.and_eq_true, Bool.not_eq_true', Bool.not_true, Bool.not_false, and_true, true_and] at hQz); simp only [go_sem, *] <;> rfl)); (case hp => (intro hQz; (try simp only [wantB_t, wantB_f, Bool.and_eq_true, Bool.not_eq_true', Bool.or_eq_false_iff, decide_eq_true_eq, decide_eq_false_iff_not, beq_iff_eq, beq_eq_false_iff_ne, bne_iff_ne, bne_eq_false_iff_eq, Int.not_lt, Int.not_le, Int.ofNat_lt, Int.ofNat_le] at hQz); first | trivial)))
    | (refine Awp.skip ?_; try simp only [go_sem, *])
    | refine Awp.block ?_
    | (apply Awp.cond; (case hc => (simp only [go_sem, *] <;> rfl)); all_goals (intro hg; (try simp only [Bool.not_true, Bool.not_false, reduceCtorEq] at hg)))
    | refine Awp.seq ?_)
  clear h0
  refine Awp.loop (fun i : Nat => i ≤ bs.length ∧ ∀ j, j < i → bigBy (bs.getD j zeroBy) = false) 60 (fun i => mkS [(0, .sl (bys bs)), (1, .sl (stys l)), (7, .v (.int .i64 i))] []) (fun i => bs.length - i) 0 (by simp) ?_ ?_
  · (apply Ghost.mk [] []; (case hdead => rfl); (case hinj => rfl); (case hV => (simp only [go_sem, *]) <;> (repeat' (first | exact View.int (by first | rfl | omega | (simp; done) | (rw [wrap_i64] <;> (try simp only [Int.natCast_add]) <;> omega) | (simp [*]; done))))); (case hB => (simp only [go_sem, *]) <;> (repeat' (first | skip; done))))
  · intro i ⟨hi, hj⟩
    by_cases hlt : i < bs.length
    · have hlt' : (i : Int) < bs.length := by omega
      have hat := bys_at bs i hlt
      have hz : ((bs.getD i zeroBy).cells).length = 3 := rfl
      cases hB : bigBy (bs.getD i zeroBy)
      · have hB' := hB
        unfold bigBy at hB'
        repeat' (first
    | (apply Awp.sreg; (case hn => (simp only [List.length_cons, List.length_nil, Nat.reduceAdd] <;> rfl)))
    | (refine st_nil ?_)
    | (apply st_a; (case hc => rfl); (case he => (simp only [go_sem, *] <;> rfl)); (case hu => (simp only [updL_nil, updL_cons] <;> rfl)); (case hp => first | trivial | omega))
    | (apply Awp.reg; (case hn => (simp only [List.length_cons, List.length_nil, Nat.reduceAdd] <;> rfl)))
    | (refine Awp.skip ?_; try simp only [go_sem, *])
    | refine Awp.block ?_
    | (apply Awp.cond; (case hc => (simp only [go_sem, *] <;> rfl)); all_goals (intro hg; (try simp only [Bool.not_true, Bool.not_false, reduceCtorEq] at hg)))
    | refine Awp.seq ?_)
        refine ⟨i + 1, ⟨by omega, ltSucc hj hB⟩, by omega, ?_⟩
        (apply Ghost.mk [] []; (case hdead => rfl); (case hinj => rfl); (case hV => (simp only [go_sem, *]) <;> (repeat' (first | exact View.int (by first | rfl | omega | (simp; done) | (rw [wrap_i64] <;> (try simp only [Int.natCast_add]) <;> omega) | (simp [*]; done))))); (case hB => (simp only [go_sem, *]) <;> (repeat' (first | skip; done))))
      · have han := any_in (d := zeroBy) hlt hB
        unfold bigBy at hB
        repeat' (first
    | (apply Awp.sreg; (case hn => (simp only [List.length_cons, List.length_nil, Nat.reduceAdd] <;> rfl)))
    | (refine st_nil ?_)
    | (apply st_a; (case hc => rfl); (case he => (simp only [go_sem, *] <;> rfl)); (case hu => (simp only [updL_nil, updL_cons] <;> rfl)); (case hp => first | trivial | omega))
    | (refine Awp.ret ?_; try simp only [go_sem, *])
    | (refine Awp.skip ?_; try simp only [go_sem, *])
    | refine Awp.block ?_
    | (apply Awp.cond; (case hc => (simp only [go_sem, *] <;> rfl)); all_goals (intro hg; (try simp only [Bool.not_true, Bool.not_false, reduceCtorEq] at hg)))
    | refine Awp.seq ?_)
        all_goals repeat' (first | exact Lower.bool (by first | rfl | (simp only [true_and, Bool.true_and, Bool.false_and, Bool.and_true, Bool.and_false, Bool.true_or, Bool.false_or, reduceIte, Bool.false_eq_true, *]; done) | (simp only [true_and, reduceIte, Bool.false_eq_true, *] <;> rfl) | (simp [true_and]; done) | (simp_all [true_and]; done) | omega))
    · have hlt' : ¬ (i : Int) < bs.length := by omega
      have han := any_end (d := zeroBy) (Nat.le_of_not_lt hlt) hj
      rw [han]
      clear hj
      repeat' (first
    | (apply Awp.sreg; (case hn => (simp only [List.length_cons, List.length_nil, Nat.reduceAdd] <;> rfl)))
    | (refine st_nil ?_)
    | (apply st_a; (case hc => rfl); (case he => (simp only [go_sem, *] <;> rfl)); (case hu => (simp only [updL_nil, updL_cons] <;> rfl)); (case hp => first | trivial))
    | (refine Awp.exit ?_; try simp only [go_sem, *])
    | refine Awp.block ?_
    | (apply Awp.cond; (case hc => (simp only [go_sem, *] <;> rfl)); all_goals (intro hg; (try simp only [Bool.not_true, Bool.not_false, reduceCtorEq] at hg)))
    | refine Awp.seq ?_)
      clear hlt hlt' hi han
      refine Awp.loop (fun i : Nat => i ≤ l.length ∧ ∀ j, j < i → bigSty (l.getD j zeroSty) = false) 100 (fun i => mkS [(1, .sl (stys l)), (8, .v (.int .i64 i))] []) (fun i => l.length - i) 0 (by simp) ?_ ?_
      · (apply Ghost.mk [] []; (case hdead => rfl); (case hinj => rfl); (case hV => (simp only [go_sem, *]) <;> (repeat' (first | exact View.int (by first | rfl | omega | (simp; done) | (rw [wrap_i64] <;> (try simp only [Int.natCast_add]) <;> omega) | (simp [*]; done))))); (case hB => (simp only [go_sem, *]) <;> (repeat' (first | skip; done))))
      · intro i ⟨hi, hj⟩
        by_cases hlt : i < l.length
        · have hlt' : (i : Int) < l.length := by omega
          have hat := stys_at l i hlt
          have hz : ((l.getD i zeroSty).cells).length = 8 := rfl
          cases hB : bigSty (l.getD i zeroSty)
          · have hB' := hB
            unfold bigSty at hB'
            repeat' (first
    | (apply Awp.sreg; (case hn => (simp only [List.length_cons, List.length_nil, Nat.reduceAdd] <;> rfl)))
    | (refine st_nil ?_)
    | (apply st_a; (case hc => rfl); (case he => (simp only [go_sem, *] <;> rfl)); (case hu => (simp only [updL_nil, updL_cons] <;> rfl)); (case hp => first | trivial | omega))
    | (apply st_m; (case hc => rfl); (case hg => (simp only [go_sem, *] <;> rfl)); (case he => (intro hQz; (try simp only [wantB_t, wantB_f, Bool.and_eq_true, Bool.not_eq_true', Bool.not_true, Bool.not_false, and_true, true_and] at hQz); simp only [go_sem, *] <;> rfl)); (case hp => (intro hQz; (try simp only [wantB_t, wantB_f, Bool.and_eq_true, Bool.not_eq_true', Bool.or_eq_false_iff, decide_eq_true_eq, decide_eq_false_iff_not, beq_iff_eq, beq_eq_false_iff_ne, bne_iff_ne, bne_eq_false_iff_eq, Int.not_lt, Int.not_le, Int.ofNat_lt, Int.ofNat_le] at hQz); first | trivial | omega)))
    | (apply Awp.reg; (case hn => (simp only [List.length_cons, List.length_nil, Nat.reduceAdd] <;> rfl)))
    | (refine Awp.skip ?_; try simp only [go_sem, *])
    | refine Awp.block ?_
    | (apply Awp.cond; (case hc => (simp only [go_sem, *] <;> rfl)); all_goals (intro hg; (try simp only [Bool.not_true, Bool.not_false, reduceCtorEq] at hg)))
    | refine Awp.seq ?_)
            refine ⟨i + 1, ⟨by omega, ltSucc hj hB⟩, by omega, ?_⟩
            (apply Ghost.mk [] []; (case hdead => rfl); (case hinj => rfl); (case hV => (simp only [go_sem, *]) <;> (repeat' (first | exact View.int (by first | rfl | omega | (simp; done) | (rw [wrap_i64] <;> (try simp only [Int.natCast_add]) <;> omega) | (simp [*]; done))))); (case hB => (simp only [go_sem, *]) <;> (repeat' (first | skip; done))))
          · have han := any_in (d := zeroSty) hlt hB
            unfold bigSty at hB
            repeat' (first
    | (apply Awp.sreg; (case hn => (simp only [List.length_cons, List.length_nil, Nat.reduceAdd] <;> rfl)))
    | (refine st_nil ?_)
    | (apply st_a; (case hc => rfl); (case he => (simp only [go_sem, *] <;> rfl)); (case hu => (simp only [updL_nil, updL_cons] <;> rfl)); (case hp => first | trivial | omega))
    | (apply st_m; (case hc => rfl); (case hg => (simp only [go_sem, *] <;> rfl)); (case he => (intro hQz; (try simp only [wantB_t, wantB_f, Bool.and_eq_true, Bool.not_eq_true', Bool.not_true, Bool.not_false, and_true, true_and] at hQz); simp only [go_sem, *] <;> rfl)); (case hp => (intro hQz; (try simp only [wantB_t, wantB_f, Bool.and_eq_true, Bool.not_eq_true', Bool.or_eq_false_iff, decide_eq_true_eq, decide_eq_false_iff_not, beq_iff_eq, beq_eq_false_iff_ne, bne_iff_ne, bne_eq_false_iff_eq, Int.not_lt, Int.not_le, Int.ofNat_lt, Int.ofNat_le] at hQz); first | trivial | omega)))
    | (refine Awp.ret ?_; try simp only [go_sem, *])
    | (refine Awp.skip ?_; try simp only [go_sem, *])
    | refine Awp.block ?_
    | (apply Awp.cond; (case hc => (simp only [go_sem, *] <;> rfl)); all_goals (intro hg; (try simp only [Bool.not_true, Bool.not_false, reduceCtorEq] at hg)))
    | refine Awp.seq ?_)
            all_goals repeat' (first | exact Lower.bool (by first | rfl | (simp only [true_and, Bool.true_and, Bool.false_and, Bool.and_true, Bool.and_false, Bool.true_or, Bool.false_or, reduceIte, Bool.false_eq_true, *]; done) | (simp only [true_and, reduceIte, Bool.false_eq_true, *] <;> rfl) | (simp [true_and]; done) | (simp_all [true_and]; done) | omega))
        · have hlt' : ¬ (i : Int) < l.length := by omega
          have han := any_end (d := zeroSty) (Nat.le_of_not_lt hlt) hj
          repeat' (first
    | (apply Awp.sreg; (case hn => (simp only [List.length_cons, List.length_nil, Nat.reduceAdd] <;> rfl)))
    | (refine st_nil ?_)
    | (apply st_a; (case hc => rfl); (case he => (simp only [go_sem, *] <;> rfl)); (case hu => (simp only [updL_nil, updL_cons] <;> rfl)); (case hp => first | trivial))
    | (refine Awp.ret ?_; try simp only [go_sem, *])
    | (refine Awp.exit ?_; try simp only [go_sem, *])
    | (apply Awp.cond; (case hc => (simp only [go_sem, *] <;> rfl)); all_goals (intro hg; (try simp only [Bool.not_true, Bool.not_false, reduceCtorEq] at hg)))
    | refine Awp.seq ?_)
          all_goals repeat' (first | exact Lower.bool (by first | rfl | (simp only [true_and, Bool.true_and, Bool.false_and, Bool.and_true, Bool.and_false, Bool.true_or, Bool.false_or, reduceIte, Bool.false_eq_true, *]; done) | (simp only [true_and, reduceIte, Bool.false_eq_true, *] <;> rfl) | (simp [true_and]; done) | (simp_all [true_and]; done) | omega))
theorem few_get {bs : List By} {l : List Sty} {m : Int} (h : fewB bs l m = true) : bs.length ≤ 9 ∧ (l.length : Int) ≤ m ∧ ∀ i, i < l.length → (l.getD i zeroSty).item.size ≤ 100 := by
  unfold fewB at h
  simp only [Bool.and_eq_true, Bool.not_eq_true', Bool.or_eq_false_iff, decide_eq_false_iff_not] at h
  refine ⟨by omega, by omega, fun i hi => ?_⟩
  have h2 := h.2
  rw [List.any_eq_false] at h2
  have := h2 _ (List.getElem_mem hi)
  unfold bigSty at this
  simp only [Bool.or_eq_true, decide_eq_true_eq] at this
  have e : l.getD i zeroSty = l[i] := by simp [List.getD_eq_getElem?_getD, hi]
  rw [e]
  omega
end Go.Proofs
end
section
set_option linter.unusedVariables false
set_option linter.unusedSimpArgs false
namespace Go.Proofs
open Go Go.Ab
set_option maxHeartbeats 8000000
set_option maxRecDepth 100000
set_option linter.unusedSimpArgs false
set_option linter.unusedVariables false
attribute [local irreducible] Awp aops aopsL Go.Ab.Pure PureOwn
theorem delC_ok (nm : ByteArray) (x : Sty) : Pure Tryz.prog 48 [x.av, .rp [.v (.string nm)]] (.v (.bool (hullB nm x))) := by
  refine fn_pure Tryz.F48 (Nat.le_of_ble_eq_true rfl) ?_; unfold Tryz.ac48
  repeat' (first
    | (apply Awp.sreg; (case hn => (simp only [List.length_cons, List.length_nil, Nat.reduceAdd] <;> rfl)))
    | (refine st_nil ?_)
    | (apply st_a; (case hc => rfl); (case he => (simp only [go_sem, *] <;> rfl)); (case hu => (simp only [updL_nil, updL_cons] <;> rfl)); (case hp => first | trivial))
    | (refine Awp.ret ?_; try simp only [go_sem, *]))
  all_goals repeat' (first | exact Lower.bool (by first | rfl | (simp only [hullB, Bool.true_and, Bool.false_and, Bool.and_true, Bool.and_false, Bool.true_or, Bool.false_or, reduceIte, Bool.false_eq_true, *]; done) | (simp only [hullB, reduceIte, Bool.false_eq_true, *] <;> rfl) | (simp [hullB]; done) | (simp_all [hullB]; done) | omega))
def movB (z : Sty) (h : Int) (q : Sty) : Sty := if (q.bay.toList == z.bay.toList) && (q.b == z.b) then ⟨q.item, q.bay, q.x, q.y, q.len, q.wid, q.a, IntKind.i64.wrap (q.b + h)⟩ else q
def delayL (l : List Sty) (n : Nat) (h : Int) : List Sty := l.map (movB (l.getD n zeroSty) h)
def delayE (bs : List By) (l : List Sty) (hull : ByteArray) (h : Int) : List Sty × Int :=
  if dockE bs l != 0 then ([], dockE bs l) else if decide (idxF (hullB hull) l < 0) then ([], 8) else if !(decide (0 ≤ h) && decide (h ≤ 1048576)) then ([], 9) else
  if dockE bs (delayL l (idxF (hullB hull) l).toNat h) != 0 then ([], 19) else (delayL l (idxF (hullB hull) l).toNat h, 0)
theorem delayL_len (l : List Sty) (n : Nat) (h : Int) : (delayL l n h).length = l.length := by simp [delayL]
theorem delayL_at (l : List Sty) (n : Nat) (h : Int) (i : Nat) (hi : i < l.length) : (delayL l n h).getD i zeroSty = movB (l.getD n zeroSty) h (l.getD i zeroSty) := by
  simp [delayL, List.getD_eq_getElem?_getD, hi]
theorem stys_set (l : List Sty) (i : Nat) (x : Sty) : (stys l).set i x.cells = stys (l.set i x) := by simp [stys, List.map_set]
def mixL (D l : List Sty) (i : Nat) : List Sty := D.take i ++ l.drop i
theorem mix_len (D l : List Sty) (i : Nat) (h : D.length = l.length) (hi : i ≤ l.length) : (mixL D l i).length = l.length := by simp [mixL]; omega
theorem mix_at (D l : List Sty) (i : Nat) (h : D.length = l.length) (hi : i < l.length) : (mixL D l i).getD i zeroSty = l.getD i zeroSty := by
  unfold mixL
  rw [List.getD_eq_getElem?_getD, List.getElem?_append_right (by simp; omega), List.getElem?_drop, List.getD_eq_getElem?_getD]
  congr 2
  simp; omega
theorem mix_step (D l : List Sty) (i : Nat) (h : D.length = l.length) (hi : i < l.length) : mixL D l (i + 1) = (mixL D l i).set i (D.getD i zeroSty) := by
  unfold mixL
  have hl : (D.take i).length = i := by simp; omega
  rw [take_snoc D zeroSty i (by omega), List.set_append, if_neg (by omega), hl, Nat.sub_self, List.drop_eq_getElem_cons hi, List.set_cons_zero]
  simp
theorem mix_same (D l : List Sty) (i : Nat) (h : D.length = l.length) (hi : i < l.length) (e : D.getD i zeroSty = l.getD i zeroSty) : mixL D l (i + 1) = mixL D l i := by
  rw [mix_step D l i h hi, e]
  refine List.ext_getElem? fun k => ?_
  rw [List.getElem?_set]
  split
  · rename_i hk
    subst hk
    have hm := mix_at D l i h hi
    have hl := mix_len D l i h (by omega)
    rw [List.getD_eq_getElem?_getD, List.getElem?_eq_getElem (by omega), Option.getD_some] at hm
    rw [if_pos (by omega), List.getElem?_eq_getElem (by omega), hm]
  · rfl
end Go.Proofs
end
section
set_option linter.unusedVariables false
set_option linter.unusedSimpArgs false
namespace Go.Proofs
open Go Go.Ab
set_option maxHeartbeats 8000000
set_option maxRecDepth 100000
set_option linter.unusedSimpArgs false
set_option linter.unusedVariables false
attribute [local irreducible] Awp aops aopsL Go.Ab.Pure PureOwn
theorem ginter_ok (a b : List Sp) (ha : a.length < 2000) (hb : b.length < 2000) : PureOwn Tryz.prog 37 [.sl (sps a), .sl (sps b)] (sps (canon (interL a b))) 2 30 := by
  have c0 := sweep_ok 59 (fun x y => x && y) andC_ok rfl a b (interL a b) ha hb (fun n => by rw [inter_has, Bool.and_eq_true, hasB_iff, hasB_iff])
  refine fn_own Tryz.F37 (Nat.le_of_ble_eq_true rfl) ?_; unfold Tryz.ac37
  repeat' (first
    | (apply Awp.sreg; (case hn => (simp only [List.length_cons, List.length_nil, Nat.reduceAdd] <;> rfl)))
    | (refine st_nil ?_)
    | (apply st_a; (case hc => rfl); (case he => (simp only [go_sem, *] <;> rfl)); (case hu => (simp only [updL_nil, updL_cons] <;> rfl)); (case hp => first | trivial))
    | (apply st_co; (case hc => (simp only [go_sem, *] <;> rfl)); (case hl => (simp only [go_sem, *] <;> rfl)); (case hn => (simp only [go_sem, *] <;> rfl)); (case hp => first | exact c0 | (have hXz := c0; simp only [go_sem, *] at hXz; exact hXz)))
    | (refine Awp.ret ?_; try simp only [go_sem, *]))
  all_goals exact ⟨_, rfl, rfl⟩
theorem gminus_ok (a b : List Sp) (ha : a.length < 2000) (hb : b.length < 2000) : PureOwn Tryz.prog 36 [.sl (sps a), .sl (sps b)] (sps (minusL a b)) 2 30 := by
  have c0 := sweep_ok 58 (fun x y => x && !y) diffC_ok rfl a b (minusL a b) ha hb (fun n => by
    rw [(minus_is a b).2 n, Bool.and_eq_true, hasB_iff, Bool.not_eq_true', ← hasB_iff b, Bool.not_eq_true])
  have e : canon (minusL a b) = minusL a b := (canon_eq (minus_is a b).1 fun n => Iff.rfl).symm
  rw [e] at c0
  refine fn_own Tryz.F36 (Nat.le_of_ble_eq_true rfl) ?_; unfold Tryz.ac36
  repeat' (first
    | (apply Awp.sreg; (case hn => (simp only [List.length_cons, List.length_nil, Nat.reduceAdd] <;> rfl)))
    | (refine st_nil ?_)
    | (apply st_a; (case hc => rfl); (case he => (simp only [go_sem, *] <;> rfl)); (case hu => (simp only [updL_nil, updL_cons] <;> rfl)); (case hp => first | trivial))
    | (apply st_co; (case hc => (simp only [go_sem, *] <;> rfl)); (case hl => (simp only [go_sem, *] <;> rfl)); (case hn => (simp only [go_sem, *] <;> rfl)); (case hp => first | exact c0 | (have hXz := c0; simp only [go_sem, *] at hXz; exact hXz)))
    | (refine Awp.ret ?_; try simp only [go_sem, *]))
  all_goals exact ⟨_, rfl, rfl⟩
def heldL (l : List Sty) (nm : ByteArray) : List Sp := (l.filter (inNm nm)).map fun q => ⟨q.a, q.b⟩
def wetB (t : Int) : Bool := decide (t < 9223372036854775807)
def wetS (t : Int) : Sp := ⟨t, IntKind.i64.wrap (t + 1)⟩
def wetL (F : List Int) : List Sp := (F.filter wetB).map wetS
def wetR (l : List Sty) (nm : ByteArray) : List Sp := wetL (floodL l nm)
theorem heldL_len (l : List Sty) (nm : ByteArray) : (heldL l nm).length ≤ l.length := by
  have := List.length_filter_le (inNm nm) l
  simp [heldL]; omega
theorem wetL_len (F : List Int) : (wetL F).length ≤ F.length := by
  have := List.length_filter_le wetB F
  simp [wetL]; omega
theorem heldL_step (l : List Sty) (nm : ByteArray) (i : Nat) (h : i < l.length) : heldL (l.take (i + 1)) nm = heldL (l.take i) nm ++ (if inNm nm (l.getD i zeroSty) = true then [⟨(l.getD i zeroSty).a, (l.getD i zeroSty).b⟩] else []) := by
  rw [take_snoc l zeroSty i h]
  unfold heldL
  rw [List.filter_append, List.map_append]
  congr 1
  by_cases hp : inNm nm (l.getD i zeroSty) = true
  · rw [if_pos hp, List.filter_cons_of_pos (by exact hp)]; rfl
  · rw [if_neg hp, List.filter_cons_of_neg (by exact hp)]; rfl
theorem wetL_app (F : List Int) (t : Int) : wetL (F ++ [t]) = wetL F ++ (if wetB t = true then [wetS t] else []) := by
  unfold wetL
  rw [List.filter_append, List.map_append]
  congr 1
  by_cases hp : wetB t = true
  · rw [if_pos hp, List.filter_cons_of_pos (by exact hp)]; rfl
  · rw [if_neg hp, List.filter_cons_of_neg (by exact hp)]; rfl
def dryE (l : List Sty) (nm : ByteArray) (w : Sp) : List Sp := minusL (canon (interL (heldL l nm) [w])) (wetR l nm)
theorem dry_eq (l : List Sty) (nm : ByteArray) (w : Sp) : minusL (canon (interL (heldL l nm) [w])) (wetL (floodZ l nm)) = dryE l nm w := by
  unfold dryE
  refine canon_ext (minus_is _ _).1 (minus_is _ _).1 fun n => ?_
  rw [(minus_is _ _).2, (minus_is _ _).2]
  have e : hasS (wetL (floodZ l nm)) n ↔ hasS (wetR l nm) n := by
    unfold hasS wetR
    have hm : ∀ s : Sp, s ∈ wetL (floodZ l nm) ↔ s ∈ wetL (floodL l nm) := fun s => by
      unfold wetL floodZ
      simp only [List.mem_map, List.mem_filter, mem_cs]
    constructor
    · rintro ⟨s, hs, h⟩; exact ⟨s, (hm s).1 hs, h⟩
    · rintro ⟨s, hs, h⟩; exact ⟨s, (hm s).2 hs, h⟩
  rw [e]
theorem wet_snoc (l : List Sp) (t : Int) : sps l ++ [[.v (.int .i64 t), .v (.int .i64 (IntKind.i64.wrap (t + 1)))]] = sps (l ++ [wetS t]) := sps_snoc l (wetS t)
theorem dry_ok (l : List Sty) (nm : ByteArray) (w : Sp) (hl : l.length < 1900) : PureOwn Tryz.prog 18 [.sl (stys l), .v (.string nm), w.av] (sps (dryE l nm w)) 2 30 := by
  rw [← dry_eq]
  refine fn_own Tryz.F18 (Nat.le_of_ble_eq_true rfl) ?_; unfold Tryz.ac18
  repeat' (first
    | (apply Awp.sreg; (case hn => (simp only [List.length_cons, List.length_nil, Nat.reduceAdd] <;> rfl)))
    | (refine st_nil ?_)
    | (apply st_a; (case hc => rfl); (case he => (simp only [go_sem, *] <;> rfl)); (case hu => (simp only [updL_nil, updL_cons] <;> rfl)); (case hp => first | trivial))
    | refine Awp.block ?_
    | refine Awp.seq ?_)
  refine Awp.loop (fun i : Nat => i ≤ l.length) 50 (fun i => mkS [(0, .sl (stys l)), (1, .v (.string nm)), (5, .bp 0 0), (7, .own 1), (8, .own 2), (13, .sl (stys l)), (14, .v (.int .i64 l.length)), (15, .v (.int .i64 i))] [(0, .box w.cells), (1, .row (sps (heldL (l.take i) nm)) 2 30), (2, .row [] 2 30)]) (fun i => l.length - i) 0 (by omega) ?_ ?_
  · refine Ghost.trans (Ghost.name 7 2 30 rfl (by decide)) (Ghost.trans (Ghost.name 8 2 30 rfl (by decide)) ?_)
    have e1 : heldL (l.take 0) nm = [] := rfl
    rw [e1]
    (apply Ghost.mk [(1, 7), (2, 8)] []; (case hdead => rfl); (case hinj => rfl); (case hV => (simp only [go_sem, *]) <;> (repeat' (first | refine And.intro ?_ ?_ | exact View.int (by first | rfl | omega | (simp; done) | (rw [wrap_i64] <;> (try simp only [Int.natCast_add]) <;> omega) | (simp [*]; done)) | exact .bp rfl (by decide) | exact .own rfl (by decide)))); (case hB => (simp only [go_sem, *]) <;> (repeat' (first | refine And.intro ?_ ?_ | exact ⟨_, rfl, BView.boxF rfl⟩ | exact ⟨_, rfl, .rowE (by first | rfl | omega | (simp; done) | (rw [wrap_i64] <;> (try simp only [Int.natCast_add]) <;> omega) | (simp [*]; done))⟩))))
  · intro i hi
    by_cases hlt : i < l.length
    · have hlt' : (i : Int) < l.length := by omega
      have hat := stys_at l i hlt
      have hz : ((l.getD i zeroSty).cells).length = 8 := rfl
      have hst := heldL_step l nm i hlt
      have hln := heldL_len (l.take i) nm
      have htl : (l.take i).length = i := List.length_take_of_le hi
      cases hB : inNm nm (l.getD i zeroSty)
      · rw [hB] at hst
        simp only [Bool.false_eq_true, if_false, List.append_nil] at hst
        unfold inNm at hB
        repeat' (first
    | (apply Awp.sreg; (case hn => (simp only [List.length_cons, List.length_nil, Nat.reduceAdd] <;> rfl)))
    | (refine st_nil ?_)
    | (apply st_a; (case hc => rfl); (case he => (simp only [go_sem, *] <;> rfl)); (case hu => (simp only [updL_nil, updL_cons] <;> rfl)); (case hp => first | trivial | omega))
    | (apply Awp.reg; (case hn => (simp only [List.length_cons, List.length_nil, Nat.reduceAdd] <;> rfl)))
    | (refine Awp.skip ?_; try simp only [go_sem, *])
    | refine Awp.block ?_
    | (apply Awp.cond; (case hc => (simp only [go_sem, *] <;> rfl)); all_goals (intro hg; (try simp only [Bool.not_true, Bool.not_false, reduceCtorEq] at hg)))
    | refine Awp.seq ?_)
        refine ⟨i + 1, by omega, by omega, ?_⟩
        (apply Ghost.mk [] []; (case hdead => rfl); (case hinj => rfl); (case hV => (simp only [go_sem, *]) <;> (repeat' (first | refine And.intro ?_ ?_ | exact View.int (by first | rfl | omega | (simp; done) | (rw [wrap_i64] <;> (try simp only [Int.natCast_add]) <;> omega) | (simp [*]; done)) | exact .bp rfl (by decide) | exact .own rfl (by decide)))); (case hB => (simp only [go_sem, *]) <;> (repeat' (first | refine And.intro ?_ ?_ | exact ⟨_, rfl, BView.boxF rfl⟩ | exact ⟨_, rfl, .rowE (by first | rfl | omega | (simp; done) | (rw [wrap_i64] <;> (try simp only [Int.natCast_add]) <;> omega) | (simp [*]; done))⟩))))
      · rw [hB] at hst
        simp only [if_true] at hst
        unfold inNm at hB
        repeat' (first
    | (apply Awp.sreg; (case hn => (simp only [List.length_cons, List.length_nil, Nat.reduceAdd] <;> rfl)))
    | (refine st_nil ?_)
    | (apply st_a; (case hc => rfl); (case he => (simp only [go_sem, *] <;> rfl)); (case hu => (simp only [updL_nil, updL_cons] <;> rfl)); (case hp => first | trivial | omega | (simp; done) | (simp; omega)))
    | (apply Awp.reg; (case hn => (simp only [List.length_cons, List.length_nil, Nat.reduceAdd] <;> rfl)))
    | (refine Awp.skip ?_; try simp only [go_sem, *])
    | refine Awp.block ?_
    | (apply Awp.cond; (case hc => (simp only [go_sem, *] <;> rfl)); all_goals (intro hg; (try simp only [Bool.not_true, Bool.not_false, reduceCtorEq] at hg)))
    | refine Awp.seq ?_)
        refine ⟨i + 1, by omega, by omega, ?_⟩
        (apply Ghost.mk [(1, 63)] []; (case hdead => rfl); (case hinj => rfl); (case hV => (simp only [go_sem, *]) <;> (repeat' (first | refine And.intro ?_ ?_ | exact View.int (by first | rfl | exact sps_snoc _ ⟨_, _⟩ | omega | (simp; done) | (rw [wrap_i64] <;> (try simp only [Int.natCast_add]) <;> omega) | (simp [*]; done)) | exact .bp rfl (by decide) | exact .own rfl (by decide)))); (case hB => (simp only [go_sem, *]) <;> (repeat' (first | refine And.intro ?_ ?_ | exact ⟨_, rfl, BView.boxF rfl⟩ | exact ⟨_, rfl, .rowE (by first | rfl | exact sps_snoc _ ⟨_, _⟩ | omega | (simp; done) | (rw [wrap_i64] <;> (try simp only [Int.natCast_add]) <;> omega) | (simp [*]; done))⟩))))
    · have hlt' : ¬ (i : Int) < l.length := by omega
      have e1 : l.take i = l := List.take_of_length_le (by omega)
      have c0 := floods_ok l nm (by omega)
      have hFl := floodZ_len l nm
      have hHl := heldL_len l nm
      rw [e1]
      repeat' (first
    | (apply Awp.sreg; (case hn => (simp only [List.length_cons, List.length_nil, Nat.reduceAdd] <;> rfl)))
    | (refine st_nil ?_)
    | (apply st_a; (case hc => rfl); (case he => (simp only [go_sem, *] <;> rfl)); (case hu => (simp only [updL_nil, updL_cons] <;> rfl)); (case hp => first | trivial))
    | (apply st_co; (case hc => (simp only [go_sem, *] <;> rfl)); (case hl => (simp only [go_sem, *] <;> rfl)); (case hn => (simp only [go_sem, *] <;> rfl)); (case hp => first | exact c0 | (have hXz := c0; simp only [go_sem, *] at hXz; exact hXz)))
    | (refine Awp.exit ?_; try simp only [go_sem, *])
    | refine Awp.block ?_
    | (apply Awp.cond; (case hc => (simp only [go_sem, *] <;> rfl)); all_goals (intro hg; (try simp only [Bool.not_true, Bool.not_false, reduceCtorEq] at hg)))
    | refine Awp.seq ?_)
      obtain ⟨F, hF⟩ : ∃ F, floodZ l nm = F := ⟨_, rfl⟩
      obtain ⟨H, hH⟩ : ∃ H, heldL l nm = H := ⟨_, rfl⟩
      rw [hF] at hFl
      rw [hH] at hHl
      rw [hF, hH]
      clear c0 hF hH hlt hlt' e1 hi
      refine Awp.loop (fun i : Nat => i ≤ F.length) 100 (fun i => mkS [(5, .bp 0 0), (7, .own 1), (8, .own 2), (31, .own 3), (32, .v (.int .i64 F.length)), (33, .v (.int .i64 i))] [(0, .box w.cells), (1, .row (sps H) 2 30), (2, .row (sps (wetL (F.take i))) 2 30), (3, .row (ints F) 1 3)]) (fun i => F.length - i) 0 (by omega) ?_ ?_
      · have e1 : wetL (F.take 0) = [] := rfl
        rw [e1]
        (apply Ghost.mk [(3, 53)] []; (case hdead => rfl); (case hinj => rfl); (case hV => (simp only [go_sem, *]) <;> (repeat' (first | refine And.intro ?_ ?_ | exact View.int (by first | rfl | omega | (simp; done) | (rw [wrap_i64] <;> (try simp only [Int.natCast_add]) <;> omega) | (simp [*]; done)) | exact .bp rfl (by decide) | exact .own rfl (by decide)))); (case hB => (simp only [go_sem, *]) <;> (repeat' (first | refine And.intro ?_ ?_ | exact ⟨_, rfl, BView.boxF rfl⟩ | exact ⟨_, rfl, .rowE (by first | rfl | omega | (simp; done) | (rw [wrap_i64] <;> (try simp only [Int.natCast_add]) <;> omega) | (simp [*]; done))⟩))))
      · intro i hi
        by_cases hlt : i < F.length
        · have hlt' : (i : Int) < F.length := by omega
          have hat := ints_at F i hlt
          have hst := wetL_app (F.take i) (F.getD i 0)
          rw [← take_snocI F i hlt] at hst
          have hln := wetL_len (F.take i)
          have htl : (F.take i).length = i := List.length_take_of_le hi
          obtain ⟨t, ht⟩ : ∃ t, F.getD i 0 = t := ⟨_, rfl⟩
          rw [ht] at hat hst
          clear ht
          cases hB : wetB t
          · rw [hB] at hst
            simp only [Bool.false_eq_true, if_false, List.append_nil] at hst
            unfold wetB at hB
            repeat' (first
    | (apply Awp.sreg; (case hn => (simp only [List.length_cons, List.length_nil, Nat.reduceAdd] <;> rfl)))
    | (refine st_nil ?_)
    | (apply st_a; (case hc => rfl); (case he => (simp only [go_sem, *] <;> rfl)); (case hu => (simp only [updL_nil, updL_cons] <;> rfl)); (case hp => first | trivial | omega))
    | (apply Awp.reg; (case hn => (simp only [List.length_cons, List.length_nil, Nat.reduceAdd] <;> rfl)))
    | (refine Awp.skip ?_; try simp only [go_sem, *])
    | refine Awp.block ?_
    | (apply Awp.cond; (case hc => (simp only [go_sem, *] <;> rfl)); all_goals (intro hg; (try simp only [Bool.not_true, Bool.not_false, reduceCtorEq] at hg)))
    | refine Awp.seq ?_)
            refine ⟨i + 1, by omega, by omega, ?_⟩
            (apply Ghost.mk [] []; (case hdead => rfl); (case hinj => rfl); (case hV => (simp only [go_sem, *]) <;> (repeat' (first | refine And.intro ?_ ?_ | exact View.int (by first | rfl | omega | (simp; done) | (rw [wrap_i64] <;> (try simp only [Int.natCast_add]) <;> omega) | (simp [*]; done)) | exact .bp rfl (by decide) | exact .own rfl (by decide)))); (case hB => (simp only [go_sem, *]) <;> (repeat' (first | refine And.intro ?_ ?_ | exact ⟨_, rfl, BView.boxF rfl⟩ | exact ⟨_, rfl, .rowE (by first | rfl | omega | (simp; done) | (rw [wrap_i64] <;> (try simp only [Int.natCast_add]) <;> omega) | (simp [*]; done))⟩))))
          · rw [hB] at hst
            simp only [if_true] at hst
            unfold wetB at hB
            repeat' (first
    | (apply Awp.sreg; (case hn => (simp only [List.length_cons, List.length_nil, Nat.reduceAdd] <;> rfl)))
    | (refine st_nil ?_)
    | (apply st_a; (case hc => rfl); (case he => (simp only [go_sem, *] <;> rfl)); (case hu => (simp only [updL_nil, updL_cons] <;> rfl)); (case hp => first | trivial | omega | (simp; done) | (simp; omega)))
    | (apply Awp.reg; (case hn => (simp only [List.length_cons, List.length_nil, Nat.reduceAdd] <;> rfl)))
    | (refine Awp.skip ?_; try simp only [go_sem, *])
    | refine Awp.block ?_
    | (apply Awp.cond; (case hc => (simp only [go_sem, *] <;> rfl)); all_goals (intro hg; (try simp only [Bool.not_true, Bool.not_false, reduceCtorEq] at hg)))
    | refine Awp.seq ?_)
            refine ⟨i + 1, by omega, by omega, ?_⟩
            (apply Ghost.mk [(2, 112)] []; (case hdead => rfl); (case hinj => rfl); (case hV => (simp only [go_sem, *]) <;> (repeat' (first | refine And.intro ?_ ?_ | exact View.int (by first | rfl | exact wet_snoc _ _ | omega | (simp; done) | (rw [wrap_i64] <;> (try simp only [Int.natCast_add]) <;> omega) | (simp [*]; done)) | exact .bp rfl (by decide) | exact .own rfl (by decide)))); (case hB => (simp only [go_sem, *]) <;> (repeat' (first | refine And.intro ?_ ?_ | exact ⟨_, rfl, BView.boxF rfl⟩ | exact ⟨_, rfl, .rowE (by first | rfl | exact wet_snoc _ _ | omega | (simp; done) | (rw [wrap_i64] <;> (try simp only [Int.natCast_add]) <;> omega) | (simp [*]; done))⟩))))
        · have hlt' : ¬ (i : Int) < F.length := by omega
          have e1 : F.take i = F := List.take_of_length_le (by omega)
          have hWl := wetL_len F
          have hIl : (canon (interL H [w])).length < 2000 := by
            have := canon_len (interL H [w])
            rw [inter_len] at this
            simp at this; omega
          have c1 := ginter_ok H [w] (by omega) (by simp)
          have c2 := gminus_ok (canon (interL H [w])) (wetL F) hIl (by omega)
          have hw := sps_one1 w
          rw [e1]
          repeat' (first
    | (apply Awp.sreg; (case hn => (simp only [List.length_cons, List.length_nil, Nat.reduceAdd] <;> rfl)))
    | (refine st_nil ?_)
    | (apply st_a; (case hc => rfl); (case he => (simp only [go_sem, *] <;> rfl)); (case hu => (simp only [updL_nil, updL_cons] <;> rfl)); (case hp => first | trivial | (simp; done)))
    | (apply st_cod; (case hc => (simp only [go_sem, *] <;> rfl)); (case hl => (simp only [go_sem, *] <;> rfl)); (case hn => (simp only [go_sem, *] <;> rfl)); (case hp => first | exact c1 | (have hXz := c1; simp only [go_sem, *] at hXz; exact hXz)); (case hd => first | exact sps_dry _ | exact ints_dry _ | (repeat' (first | exact Dry.v _ | exact Dry.any | exact Dry.nils | exact Dry.slE | refine Dry.agg ?_ | refine Dry.tup ?_ | (refine List.forall_mem_cons.2 (And.intro ?_ ?_)) | (intro cQ hQ; cases hQ; done)))); (case hm => first | decide | (simp; done)))
    | (apply st_cod; (case hc => (simp only [go_sem, *] <;> rfl)); (case hl => (simp only [go_sem, *] <;> rfl)); (case hn => (simp only [go_sem, *] <;> rfl)); (case hp => first | exact c2 | (have hXz := c2; simp only [go_sem, *] at hXz; exact hXz)); (case hd => first | exact sps_dry _ | exact ints_dry _ | (repeat' (first | exact Dry.v _ | exact Dry.any | exact Dry.nils | exact Dry.slE | refine Dry.agg ?_ | refine Dry.tup ?_ | (refine List.forall_mem_cons.2 (And.intro ?_ ?_)) | (intro cQ hQ; cases hQ; done)))); (case hm => first | decide | (simp; done)))
    | (refine Awp.ret ?_; try simp only [go_sem, *])
    | (refine Awp.exit ?_; try simp only [go_sem, *])
    | (apply Awp.cond; (case hc => (simp only [go_sem, *] <;> rfl)); all_goals (intro hg; (try simp only [Bool.not_true, Bool.not_false, reduceCtorEq] at hg)))
    | refine Awp.seq ?_)
          exact ⟨_, rfl, rfl⟩
theorem rdry_ok (l : List Sty) (nm : ByteArray) (w : Sp) (hl : l.length < 290) : PureOwn Tryz.prog 19 [.sl (stys l), .v (.string nm), w.av] (sps (dryE l nm w)) 2 30 := by
  unfold dryE
  refine fn_own Tryz.F19 (Nat.le_of_ble_eq_true rfl) ?_; unfold Tryz.ac19
  repeat' (first
    | (apply Awp.sreg; (case hn => (simp only [List.length_cons, List.length_nil, Nat.reduceAdd] <;> rfl)))
    | (refine st_nil ?_)
    | (apply st_a; (case hc => rfl); (case he => (simp only [go_sem, *] <;> rfl)); (case hu => (simp only [updL_nil, updL_cons] <;> rfl)); (case hp => first | trivial))
    | refine Awp.block ?_
    | refine Awp.seq ?_)
  refine Awp.loop (fun i : Nat => i ≤ l.length) 50 (fun i => mkS [(0, .sl (stys l)), (1, .v (.string nm)), (5, .bp 0 0), (7, .own 1), (8, .own 2), (9, .v (.int .i64 i))] [(0, .box w.cells), (1, .row (sps (heldL (l.take i) nm)) 2 30), (2, .row (sps (wetR (l.take i) nm)) 2 30)]) (fun i => l.length - i) 0 (by omega) ?_ ?_
  · refine Ghost.trans (Ghost.name 7 2 30 rfl (by decide)) (Ghost.trans (Ghost.name 8 2 30 rfl (by decide)) ?_)
    have e1 : heldL (l.take 0) nm = [] := rfl
    have e2 : wetR (l.take 0) nm = [] := rfl
    rw [e1, e2]
    (apply Ghost.mk [(1, 5), (2, 6)] []; (case hdead => rfl); (case hinj => rfl); (case hV => (simp only [go_sem, *]) <;> (repeat' (first | refine And.intro ?_ ?_ | exact View.int (by first | rfl | omega | (simp; done) | (rw [wrap_i64] <;> (try simp only [Int.natCast_add]) <;> omega) | (simp [*]; done)) | exact .bp rfl (by decide) | exact .own rfl (by decide)))); (case hB => (simp only [go_sem, *]) <;> (repeat' (first | refine And.intro ?_ ?_ | exact ⟨_, rfl, BView.boxF rfl⟩ | exact ⟨_, rfl, .rowE (by first | rfl | omega | (simp; done) | (rw [wrap_i64] <;> (try simp only [Int.natCast_add]) <;> omega) | (simp [*]; done))⟩))))
  · intro i hi
    by_cases hlt : i < l.length
    · have hlt' : (i : Int) < l.length := by omega
      have hat := stys_at l i hlt
      have hz : ((l.getD i zeroSty).cells).length = 8 := rfl
      have hst := heldL_step l nm i hlt
      have hst2 := floodL_step l nm i hlt
      have hln := heldL_len (l.take i) nm
      have hln2 : (wetR (l.take i) nm).length ≤ l.length := Nat.le_trans (wetL_len _) (Nat.le_trans (floodL_len _ nm) (by simp; omega))
      have htl : (l.take i).length = i := List.length_take_of_le hi
      cases hB : inNm nm (l.getD i zeroSty)
      · rw [hB] at hst hst2
        simp only [Bool.false_eq_true, if_false, List.append_nil] at hst hst2
        have hw : wetR (l.take (i + 1)) nm = wetR (l.take i) nm := by unfold wetR; rw [hst2]
        unfold inNm at hB
        clear hst2
        repeat' (first
    | (apply Awp.sreg; (case hn => (simp only [List.length_cons, List.length_nil, Nat.reduceAdd] <;> rfl)))
    | (refine st_nil ?_)
    | (apply st_a; (case hc => rfl); (case he => (simp only [go_sem, *] <;> rfl)); (case hu => (simp only [updL_nil, updL_cons] <;> rfl)); (case hp => first | trivial | omega))
    | (apply Awp.reg; (case hn => (simp only [List.length_cons, List.length_nil, Nat.reduceAdd] <;> rfl)))
    | (refine Awp.skip ?_; try simp only [go_sem, *])
    | refine Awp.block ?_
    | (apply Awp.cond; (case hc => (simp only [go_sem, *] <;> rfl)); all_goals (intro hg; (try simp only [Bool.not_true, Bool.not_false, reduceCtorEq] at hg)))
    | refine Awp.seq ?_)
        refine ⟨i + 1, by omega, by omega, ?_⟩
        (apply Ghost.mk [] []; (case hdead => rfl); (case hinj => rfl); (case hV => (simp only [go_sem, *]) <;> (repeat' (first | refine And.intro ?_ ?_ | exact View.int (by first | rfl | omega | (simp; done) | (rw [wrap_i64] <;> (try simp only [Int.natCast_add]) <;> omega) | (simp [*]; done)) | exact .bp rfl (by decide) | exact .own rfl (by decide)))); (case hB => (simp only [go_sem, *]) <;> (repeat' (first | refine And.intro ?_ ?_ | exact ⟨_, rfl, BView.boxF rfl⟩ | exact ⟨_, rfl, .rowE (by first | rfl | omega | (simp; done) | (rw [wrap_i64] <;> (try simp only [Int.natCast_add]) <;> omega) | (simp [*]; done))⟩))))
      · rw [hB] at hst hst2
        simp only [if_true] at hst hst2
        have hw : wetR (l.take (i + 1)) nm = wetR (l.take i) nm ++ (if wetB (l.getD i zeroSty).b = true then [wetS (l.getD i zeroSty).b] else []) := by unfold wetR; rw [hst2, wetL_app]
        unfold inNm at hB
        clear hst2
        cases hW : wetB (l.getD i zeroSty).b
        · rw [hW] at hw
          simp only [Bool.false_eq_true, if_false, List.append_nil] at hw
          unfold wetB at hW
          repeat' (first
    | (apply Awp.sreg; (case hn => (simp only [List.length_cons, List.length_nil, Nat.reduceAdd] <;> rfl)))
    | (refine st_nil ?_)
    | (apply st_a; (case hc => rfl); (case he => (simp only [go_sem, *] <;> rfl)); (case hu => (simp only [updL_nil, updL_cons] <;> rfl)); (case hp => first | trivial | omega | (simp; done) | (simp; omega)))
    | (apply Awp.reg; (case hn => (simp only [List.length_cons, List.length_nil, Nat.reduceAdd] <;> rfl)))
    | (refine Awp.skip ?_; try simp only [go_sem, *])
    | refine Awp.block ?_
    | (apply Awp.cond; (case hc => (simp only [go_sem, *] <;> rfl)); all_goals (intro hg; (try simp only [Bool.not_true, Bool.not_false, reduceCtorEq] at hg)))
    | refine Awp.seq ?_)
          refine ⟨i + 1, by omega, by omega, ?_⟩
          (apply Ghost.mk [(1, 68)] []; (case hdead => rfl); (case hinj => rfl); (case hV => (simp only [go_sem, *]) <;> (repeat' (first | refine And.intro ?_ ?_ | exact View.int (by first | rfl | exact sps_snoc _ ⟨_, _⟩ | omega | (simp; done) | (rw [wrap_i64] <;> (try simp only [Int.natCast_add]) <;> omega) | (simp [*]; done)) | exact .bp rfl (by decide) | exact .own rfl (by decide)))); (case hB => (simp only [go_sem, *]) <;> (repeat' (first | refine And.intro ?_ ?_ | exact ⟨_, rfl, BView.boxF rfl⟩ | exact ⟨_, rfl, .rowE (by first | rfl | exact sps_snoc _ ⟨_, _⟩ | omega | (simp; done) | (rw [wrap_i64] <;> (try simp only [Int.natCast_add]) <;> omega) | (simp [*]; done))⟩))))
        · rw [hW] at hw
          simp only [if_true] at hw
          unfold wetB at hW
          repeat' (first
    | (apply Awp.sreg; (case hn => (simp only [List.length_cons, List.length_nil, Nat.reduceAdd] <;> rfl)))
    | (refine st_nil ?_)
    | (apply st_a; (case hc => rfl); (case he => (simp only [go_sem, *] <;> rfl)); (case hu => (simp only [updL_nil, updL_cons] <;> rfl)); (case hp => first | trivial | omega | (simp; done) | (simp; omega)))
    | (apply Awp.reg; (case hn => (simp only [List.length_cons, List.length_nil, Nat.reduceAdd] <;> rfl)))
    | (refine Awp.skip ?_; try simp only [go_sem, *])
    | refine Awp.block ?_
    | (apply Awp.cond; (case hc => (simp only [go_sem, *] <;> rfl)); all_goals (intro hg; (try simp only [Bool.not_true, Bool.not_false, reduceCtorEq] at hg)))
    | refine Awp.seq ?_
    | (refine Awp.draw ?_)
    | (apply sl_a; (case hc => rfl); (case he => (simp only [go_sem, *] <;> rfl)); (case hu => (simp only [updL_nil, updL_cons] <;> rfl)); (case hl => (simp only [List.map_cons, List.map_nil] <;> rfl)); (case hp => first | trivial | omega | (simp; done) | (simp; omega)))
    | (refine sl_nil (And.intro (by first | exact drawOk_of (by decide +kernel) | (simp only [List.map_cons, List.map_nil]; exact drawOk_of (by decide +kernel)) | decide) ?_)))
          refine ⟨i + 1, by omega, by omega, ?_⟩
          (apply Ghost.mk [(1, 68), (2, 93)] []; (case hdead => rfl); (case hinj => rfl); (case hV => (simp only [go_sem, *]) <;> (repeat' (first | refine And.intro ?_ ?_ | exact View.int (by first | rfl | exact (sps_snoc _ ⟨_, _⟩) | exact (wet_snoc _ _) | omega | (simp; done) | (rw [wrap_i64] <;> (try simp only [Int.natCast_add]) <;> omega) | (simp [*]; done)) | exact .bp rfl (by decide) | exact .own rfl (by decide)))); (case hB => (simp only [go_sem, *]) <;> (repeat' (first | refine And.intro ?_ ?_ | exact ⟨_, rfl, BView.boxF rfl⟩ | exact ⟨_, rfl, .rowE (by first | rfl | exact (sps_snoc _ ⟨_, _⟩) | exact (wet_snoc _ _) | omega | (simp; done) | (rw [wrap_i64] <;> (try simp only [Int.natCast_add]) <;> omega) | (simp [*]; done))⟩))))
    · have hlt' : ¬ (i : Int) < l.length := by omega
      have e1 : l.take i = l := List.take_of_length_le (by omega)
      have hHl := heldL_len l nm
      have hWl : (wetR l nm).length ≤ l.length := Nat.le_trans (wetL_len _) (floodL_len _ nm)
      have hIl : (canon (interL (heldL l nm) [w])).length < 1000 := by
        have := canon_len (interL (heldL l nm) [w])
        rw [inter_len] at this
        simp at this; omega
      have c1 := rinter_ok (heldL l nm) [w] (by omega) (by simp)
      have c2 := rminus_ok (canon (interL (heldL l nm) [w])) (wetR l nm) hIl (by omega)
      have hw := sps_one1 w
      rw [e1]
      generalize heldL l nm = H at *
      generalize wetR l nm = W at *
      repeat' (first
    | (apply Awp.sreg; (case hn => (simp only [List.length_cons, List.length_nil, Nat.reduceAdd] <;> rfl)))
    | (refine st_nil ?_)
    | (apply st_a; (case hc => rfl); (case he => (simp only [go_sem, *] <;> rfl)); (case hu => (simp only [updL_nil, updL_cons] <;> rfl)); (case hp => first | trivial | (simp; done)))
    | (apply st_cod; (case hc => (simp only [go_sem, *] <;> rfl)); (case hl => (simp only [go_sem, *] <;> rfl)); (case hn => (simp only [go_sem, *] <;> rfl)); (case hp => first | exact c1 | (have hXz := c1; simp only [go_sem, *] at hXz; exact hXz)); (case hd => first | exact sps_dry _ | exact ints_dry _ | (repeat' (first | exact Dry.v _ | exact Dry.any | exact Dry.nils | exact Dry.slE | refine Dry.agg ?_ | refine Dry.tup ?_ | (refine List.forall_mem_cons.2 (And.intro ?_ ?_)) | (intro cQ hQ; cases hQ; done)))); (case hm => first | decide | (simp; done)))
    | (apply st_cod; (case hc => (simp only [go_sem, *] <;> rfl)); (case hl => (simp only [go_sem, *] <;> rfl)); (case hn => (simp only [go_sem, *] <;> rfl)); (case hp => first | exact c2 | (have hXz := c2; simp only [go_sem, *] at hXz; exact hXz)); (case hd => first | exact sps_dry _ | exact ints_dry _ | (repeat' (first | exact Dry.v _ | exact Dry.any | exact Dry.nils | exact Dry.slE | refine Dry.agg ?_ | refine Dry.tup ?_ | (refine List.forall_mem_cons.2 (And.intro ?_ ?_)) | (intro cQ hQ; cases hQ; done)))); (case hm => first | decide | (simp; done)))
    | (refine Awp.ret ?_; try simp only [go_sem, *])
    | (refine Awp.exit ?_; try simp only [go_sem, *])
    | (apply Awp.cond; (case hc => (simp only [go_sem, *] <;> rfl)); all_goals (intro hg; (try simp only [Bool.not_true, Bool.not_false, reduceCtorEq] at hg)))
    | refine Awp.seq ?_)
      exact ⟨_, rfl, rfl⟩
end Go.Proofs
end
section
set_option linter.unusedVariables false
set_option linter.unusedSimpArgs false
namespace Go.Proofs
open Go Go.Ab
set_option maxHeartbeats 8000000
set_option maxRecDepth 100000
set_option linter.unusedSimpArgs false
set_option linter.unusedVariables false
attribute [local irreducible] Awp aops aopsL Go.Ab.Pure PureOwn
theorem delay_two (bs : List By) (l : List Sty) (hull : ByteArray) (h : Int) (n : Nat) (hb : bs.length < 90000) (hl : l.length < 80000) (hC : dockE bs l = 0) (hn : idxF (hullB hull) l = n) (hnl : n < l.length) (hR : (!(decide (0 ≤ h) && decide (h ≤ 1048576))) = false) (hDE : dockE bs (delayL l n h) = 0) :
    PureTwo Tryz.prog 22 [.sl (bys bs), .sl (stys l), .v (.string hull), .v (.int .i64 h)] (stys (delayL l n h)) 8 43 (.int .i64 0) := by
  have c0 := dcheck_ok bs l (by omega) (by omega)
  have c2 := indexK_ok l 48 [.v (.string hull)] (hullB hull) (by omega) (delC_ok hull)
  rw [hC] at c0
  rw [hn] at c2
  have hn0 : ¬ (n : Int) < 0 := by omega
  clear hn
  have hDl := delayL_len l n h
  have hDa := delayL_at l n h
  obtain ⟨D, hD⟩ : ∃ D, delayL l n h = D := ⟨_, rfl⟩
  have h1 := stys_one l
  have hpos : 0 < l.length := by omega
  rw [hD] at hDl hDa hDE ⊢
  have c3 := dcheck_ok bs D (by omega) (by omega)
  refine fn_two Tryz.F22 (Nat.le_of_ble_eq_true rfl) ?_; unfold Tryz.ac22
  repeat' (first
    | (apply Awp.sreg; (case hn => (simp only [List.length_cons, List.length_nil, Nat.reduceAdd] <;> rfl)))
    | (refine st_nil ?_)
    | (apply st_a; (case hc => rfl); (case he => (simp only [go_sem, *] <;> rfl)); (case hu => (simp only [updL_nil, updL_cons] <;> rfl)); (case hp => first | trivial | omega | (simp; omega)))
    | (apply st_c; (case hc => (simp only [go_sem, *] <;> rfl)); (case hl => (simp only [go_sem, *] <;> rfl)); (case hn => (simp only [go_sem, *] <;> rfl)); (case hp => first | exact c0 | (have hXz := c0; simp only [go_sem, *] at hXz; exact hXz)))
    | (apply st_cd; (case hc => (simp only [go_sem, *] <;> rfl)); (case hl => (simp only [go_sem, *] <;> rfl)); (case hn => (simp only [go_sem, *] <;> rfl)); (case hp => first | exact c2 | (have hXz := c2; simp only [go_sem, *] at hXz; exact hXz)); (case hd => first | exact .v _ | exact .any | exact .nils | (repeat' (first | exact Dry.v _ | exact Dry.any | exact Dry.nils | exact Dry.slE | refine Dry.agg ?_ | refine Dry.tup ?_ | (refine List.forall_mem_cons.2 (And.intro ?_ ?_)) | (intro cQ hQ; cases hQ; done)))); (case hm => first | decide | (simp; done)))
    | (apply st_c; (case hc => (simp only [go_sem, *] <;> rfl)); (case hl => (simp only [go_sem, *] <;> rfl)); (case hn => (simp only [go_sem, *] <;> rfl)); (case hp => first | exact from_ok _ _ _ | (have hXz := from_ok _ _ _; simp only [go_sem, *] at hXz; exact hXz)))
    | (refine Awp.skip ?_; try simp only [go_sem, *])
    | refine Awp.block ?_
    | (apply Awp.cond; (case hc => (simp only [go_sem, *] <;> rfl)); all_goals (intro hg; (try simp only [Bool.not_true, Bool.not_false, reduceCtorEq] at hg)))
    | refine Awp.seq ?_)
  clear c0 c2 hR
  refine Awp.loop (fun i : Nat => i ≤ l.length) 100 (fun i => mkS [(0, .sl (bys bs)), (1, .sl (stys l)), (3, .v (.int .i64 h)), (11, .v (.int .i64 n)), (12, .own 0), (35, .sl (stys l)), (36, .v (.int .i64 l.length)), (37, .v (.int .i64 i))] [(0, .row (stys (mixL D l i)) 8 43)]) (fun i => l.length - i) 0 (by omega) ?_ ?_
  · have e1 : mixL D l 0 = l := by simp [mixL]
    rw [e1]
    (apply Ghost.mk [(0, 20)] []; (case hdead => rfl); (case hinj => rfl); (case hV => (simp only [go_sem, *]) <;> (repeat' (first | refine And.intro ?_ ?_ | exact View.int (by first | rfl | omega | (simp; done) | (rw [wrap_i64] <;> (try simp only [Int.natCast_add]) <;> omega) | (simp [*]; done)) | exact .own rfl (by decide)))); (case hB => (simp only [go_sem, *]) <;> (repeat' (first | exact ⟨_, rfl, .rowE (by first | rfl | omega | (simp; done) | (rw [wrap_i64] <;> (try simp only [Int.natCast_add]) <;> omega) | (simp [*]; done))⟩))))
  · intro i hi
    by_cases hlt : i < l.length
    · have hlt' : (i : Int) < l.length := by omega
      have hat := stys_at l i hlt
      have hatn := stys_at l n hnl
      have hz : ((l.getD i zeroSty).cells).length = 8 := rfl
      have hzn : ((l.getD n zeroSty).cells).length = 8 := rfl
      have hnl' : (n : Int) < l.length := by omega
      have hml := mix_len D l i hDl hi
      have hma : (stys (mixL D l i)).getD i [] = (l.getD i zeroSty).cells := by rw [stys_at _ _ (by omega), mix_at D l i hDl hlt]
      have hdi := hDa i hlt
      have hst := mix_step D l i hDl hlt
      have hsame := mix_same D l i hDl hlt
      rw [hdi] at hst hsame
      unfold movB at hst hsame
      clear hD hdi hDa
      generalize l.getD n zeroSty = z at *
      generalize l.getD i zeroSty = q at *
      cases hB : ((q.bay.toList == z.bay.toList) && (q.b == z.b))
      · have e2 := hsame (by rw [hB]; rfl)
        clear hsame hst
        repeat' (first
    | (apply Awp.sreg; (case hn => (simp only [List.length_cons, List.length_nil, Nat.reduceAdd] <;> rfl)))
    | (apply Awp.sdraw; (case hn => (simp only [List.length_cons, List.length_nil, Nat.reduceAdd] <;> rfl)))
    | (refine st_nil ?_)
    | (apply st_a; (case hc => rfl); (case he => (simp only [go_sem, *] <;> rfl)); (case hu => (simp only [updL_nil, updL_cons] <;> rfl)); (case hp => first | trivial | omega | (simp; done)))
    | (apply Awp.reg; (case hn => (simp only [List.length_cons, List.length_nil, Nat.reduceAdd] <;> rfl)))
    | (refine Awp.skip ?_; try simp only [go_sem, *])
    | refine Awp.block ?_
    | (apply Awp.cond; (case hc => (simp only [go_sem, *] <;> rfl)); all_goals (intro hg; (try simp only [Bool.not_true, Bool.not_false, reduceCtorEq] at hg)))
    | refine Awp.seq ?_
    | (apply sl_a; (case hc => rfl); (case he => (simp only [go_sem, *] <;> rfl)); (case hu => (simp only [updL_nil, updL_cons] <;> rfl)); (case hl => (simp only [List.map_cons, List.map_nil] <;> rfl)); (case hp => first | trivial | omega))
    | (apply sl_gn; (case hv => (simp only [go_sem, *] <;> rfl)); (case hbw => rfl))
    | (apply sl_ga; (case hb => rfl); (case hv => (simp only [go_sem, *] <;> rfl)); (case he => (simp only [go_sem, *] <;> rfl)); (case hu => (simp only [updL_nil, updL_cons] <;> rfl)); (case hl => (simp only [List.map_cons, List.map_nil] <;> rfl)); (case hp => first | trivial | omega))
    | (apply sl_case; (case hv => (simp only [go_sem, *] <;> rfl)); all_goals (intro hg; (try simp only [Bool.not_true, Bool.not_false, reduceCtorEq] at hg)))
    | (refine sl_nil (And.intro (by first | exact drawOk_of (by decide +kernel) | (simp only [List.map_cons, List.map_nil]; exact drawOk_of (by decide +kernel)) | decide) ?_)))
        all_goals first
          | (refine ⟨i + 1, by omega, by omega, ?_⟩
             (apply Ghost.mk [] []; (case hdead => rfl); (case hinj => rfl); (case hV => (simp only [go_sem, *]) <;> (repeat' (first | refine And.intro ?_ ?_ | exact View.int (by first | rfl | omega | (simp; done) | (rw [wrap_i64] <;> (try simp only [Int.natCast_add]) <;> omega) | (simp [*]; done)) | exact .own rfl (by decide)))); (case hB => (simp only [go_sem, *]) <;> (repeat' (first | exact ⟨_, rfl, .rowE (by first | rfl | omega | (simp; done) | (rw [wrap_i64] <;> (try simp only [Int.natCast_add]) <;> omega) | (simp [*]; done))⟩)))))
          | (exfalso; simp only [Bool.and_true, Bool.true_and, Bool.and_false, Bool.false_and, reduceCtorEq, *] at hB; done)
      · rw [hB] at hst
        simp only [if_true] at hst
        have hfin : (stys (mixL D l i)).set i [.v (.string q.item), .v (.string q.bay), .v (.int .i64 q.x), .v (.int .i64 q.y), .v (.int .i64 q.len), .v (.int .i64 q.wid), .v (.int .i64 q.a), .v (.int .i64 (IntKind.i64.wrap (q.b + h)))] = stys (mixL D l (i + 1)) := by
          rw [hst]; exact stys_set _ _ ⟨q.item, q.bay, q.x, q.y, q.len, q.wid, q.a, IntKind.i64.wrap (q.b + h)⟩
        clear hsame hst
        repeat' (first
    | (apply Awp.sreg; (case hn => (simp only [List.length_cons, List.length_nil, Nat.reduceAdd] <;> rfl)))
    | (apply Awp.sdraw; (case hn => (simp only [List.length_cons, List.length_nil, Nat.reduceAdd] <;> rfl)))
    | (refine st_nil ?_)
    | (apply st_a; (case hc => rfl); (case he => (simp only [go_sem, *] <;> rfl)); (case hu => (simp only [updL_nil, updL_cons] <;> rfl)); (case hp => first | trivial | omega | (simp; done)))
    | (apply Awp.reg; (case hn => (simp only [List.length_cons, List.length_nil, Nat.reduceAdd] <;> rfl)))
    | (refine Awp.skip ?_; try simp only [go_sem, *])
    | refine Awp.block ?_
    | (apply Awp.cond; (case hc => (simp only [go_sem, *] <;> rfl)); all_goals (intro hg; (try simp only [Bool.not_true, Bool.not_false, reduceCtorEq] at hg)))
    | refine Awp.seq ?_
    | (apply sl_a; (case hc => rfl); (case he => (simp only [go_sem, *] <;> rfl)); (case hu => (simp only [updL_nil, updL_cons] <;> rfl)); (case hl => (simp only [List.map_cons, List.map_nil] <;> rfl)); (case hp => first | trivial | omega))
    | (apply sl_gn; (case hv => (simp only [go_sem, *] <;> rfl)); (case hbw => rfl))
    | (apply sl_ga; (case hb => rfl); (case hv => (simp only [go_sem, *] <;> rfl)); (case he => (simp only [go_sem, *] <;> rfl)); (case hu => (simp only [updL_nil, updL_cons] <;> rfl)); (case hl => (simp only [List.map_cons, List.map_nil] <;> rfl)); (case hp => first | trivial | omega))
    | (apply sl_case; (case hv => (simp only [go_sem, *] <;> rfl)); all_goals (intro hg; (try simp only [Bool.not_true, Bool.not_false, reduceCtorEq] at hg)))
    | (refine sl_nil (And.intro (by first | exact drawOk_of (by decide +kernel) | (simp only [List.map_cons, List.map_nil]; exact drawOk_of (by decide +kernel)) | decide) ?_)))
        all_goals first
          | (refine ⟨i + 1, by omega, by omega, ?_⟩
             (apply Ghost.mk [] []; (case hdead => rfl); (case hinj => rfl); (case hV => (simp only [go_sem, *]) <;> (repeat' (first | refine And.intro ?_ ?_ | exact View.int (by first | rfl | omega | (simp; done) | (rw [wrap_i64] <;> (try simp only [Int.natCast_add]) <;> omega) | (simp [*]; done)) | exact .own rfl (by decide)))); (case hB => (simp only [go_sem, *]) <;> (repeat' (first | exact ⟨_, rfl, .rowE (by first | rfl | omega | (simp; done) | (rw [wrap_i64] <;> (try simp only [Int.natCast_add]) <;> omega) | (simp [*]; done))⟩)))))
          | (exfalso; simp only [Bool.and_true, Bool.true_and, Bool.and_false, Bool.false_and, reduceCtorEq, *] at hB; done)
    · have hlt' : ¬ (i : Int) < l.length := by omega
      have e1 : mixL D l i = D := by
        unfold mixL
        rw [List.take_of_length_le (by omega), List.drop_eq_nil_of_le (by omega), List.append_nil]
      rw [e1]
      clear hD hDa
      rw [hDE] at c3
      repeat' (first
    | (apply Awp.sreg; (case hn => (simp only [List.length_cons, List.length_nil, Nat.reduceAdd] <;> rfl)))
    | (refine st_nil ?_)
    | (apply st_a; (case hc => rfl); (case he => (simp only [go_sem, *] <;> rfl)); (case hu => (simp only [updL_nil, updL_cons] <;> rfl)); (case hp => first | trivial))
    | (apply st_cd; (case hc => (simp only [go_sem, *] <;> rfl)); (case hl => (simp only [go_sem, *] <;> rfl)); (case hn => (simp only [go_sem, *] <;> rfl)); (case hp => first | exact c3 | (have hXz := c3; simp only [go_sem, *] at hXz; exact hXz)); (case hd => first | exact .v _ | exact .any | exact .nils | (repeat' (first | exact Dry.v _ | exact Dry.any | exact Dry.nils | exact Dry.slE | refine Dry.agg ?_ | refine Dry.tup ?_ | (refine List.forall_mem_cons.2 (And.intro ?_ ?_)) | (intro cQ hQ; cases hQ; done)))); (case hm => first | decide | (simp; done)))
    | (refine Awp.ret ?_; try simp only [go_sem, *])
    | (refine Awp.skip ?_; try simp only [go_sem, *])
    | (refine Awp.exit ?_; try simp only [go_sem, *])
    | (apply Awp.cond; (case hc => (simp only [go_sem, *] <;> rfl)); all_goals (intro hg; (try simp only [Bool.not_true, Bool.not_false, reduceCtorEq] at hg)))
    | refine Awp.seq ?_)
      exact ⟨0, rfl, rfl⟩
def nD : ByteArray := ⟨⟨[68]⟩⟩
def nH1 : ByteArray := ⟨⟨[72, 49]⟩⟩
def nH2 : ByteArray := ⟨⟨[72, 50]⟩⟩
def exD : List By := [⟨nD, 300, 50⟩]
def exH : Sty := ⟨nH1, nD, 0, 0, 200, 30, 0, 100⟩
def exX : Sty := ⟨nH2, ⟨⟨[]⟩⟩, 0, 0, 100, 30, 20, 0⟩
def exA : Sty := ⟨nH2, nD, 200, 0, 100, 30, 20, 100⟩
def exB : Sty := ⟨nH2, nD, 0, 0, 100, 30, 100, 190⟩
def exS : Sty := ⟨nH2, nD, 200, 0, 100, 30, 20, 80⟩
theorem sortI_ins : sortI = isortI := sortZ_ins
theorem exFit1 : fitH exD [exH] exX 60 (fitP exD [exH] exX 60) = (exA, 0) := by
  delta fitH fitP tryD tryP startsZ placeD xsD ysD dockE
  rw [sortI_ins]
  kernel_rfl
theorem exFit2 : fitH exD [exH] exX 90 (fitP exD [exH] exX 90) = (exB, 0) := by
  delta fitH fitP tryD tryP startsZ placeD xsD ysD dockE
  rw [sortI_ins]
  kernel_rfl
theorem exDel : delayL [exH, exA] 0 10 = [⟨nH1, nD, 0, 0, 200, 30, 0, 110⟩, ⟨nH2, nD, 200, 0, 100, 30, 20, 110⟩] := by kernel_rfl
theorem exC : dockE exD [exH, exS] = 14 := by kernel_rfl
theorem exF : floodZ [exH, exA] nD = [100] := by
  delta floodZ
  rw [sortI_ins]
  kernel_rfl
theorem exDry : dryE [exH, exA, exB] nD ⟨10, 120⟩ = [⟨10, 100⟩, ⟨101, 120⟩] := by kernel_rfl
theorem stys_one1 (a : Sty) : stys [a] = [a.cells] := rfl
theorem stys_two (a b : Sty) : stys [a, b] = [a.cells, b.cells] := rfl
theorem stys_three (a b c : Sty) : stys [a, b, c] = [a.cells, b.cells, c.cells] := rfl
theorem sps_two (a b : Sp) : sps [a, b] = [a.cells, b.cells] := rfl
theorem bys_ex : bys exD = [[.v (.string nD), .v (.int .i64 300), .v (.int .i64 50)]] := rfl
theorem alive_ok : Pure Tryz.prog 11 [] (.v (.bool true)) := by
  have c1 := fit_ok exD [exH] exX 60 (by decide) (by decide)
  have c2 := fit_ok exD [exH] exX 90 (by decide) (by decide)
  have c3 := delay_two exD [exH, exA] nH1 10 0 (by decide) (by decide) (by kernel_rfl) (by kernel_rfl) (by decide) (by decide) (by kernel_rfl)
  have c4 := dcheck_ok exD [exH, exS] (by decide) (by decide)
  have c5 := floods_ok [exH, exA] nD (by decide)
  have c6 := dry_ok [exH, exA, exB] nD ⟨10, 120⟩ (by decide)
  have c7 := sameI_ok [100] (by decide)
  have c8 := same_ok [⟨10, 100⟩, ⟨101, 120⟩] (by decide)
  rw [exFit1] at c1; rw [exFit2] at c2; rw [exDel] at c3; rw [exC] at c4; rw [exF] at c5; rw [exDry] at c6
  have e1 : ∀ n : Int, (n == n) = true := by simp
  rw [bys_ex] at *
  have hi1 : ints [100] = [[.v (.int .i64 100)]] := rfl
  rw [hi1] at *
  clear hi1
  simp only [stys_one1, stys_two, stys_three, sps_two] at *
  unfold exH exX exA exB exS nD nH1 nH2 at *
  simp only [Sty.av, Sty.cells, Sp.cells, Sp.av] at *
  refine fn_pure Tryz.F11 (Nat.le_of_ble_eq_true rfl) ?_; unfold Tryz.ac11
  repeat' (first
    | (apply Awp.sreg; (case hn => (simp only [List.length_cons, List.length_nil, Nat.reduceAdd] <;> rfl)))
    | (refine st_nil ?_)
    | (apply st_full (d := some 16); (case hr => (simp only [go_sem, *] <;> rfl)); (case hn => (simp; done)); (case hp => (first | (simp; done))))
    | (apply st_full (d := some 13); (case hr => (simp only [go_sem, *] <;> rfl)); (case hn => (simp; done)); (case hp => (first | (simp; done))))
    | (apply st_a; (case hc => rfl); (case he => (simp only [go_sem, *] <;> rfl)); (case hu => (simp only [updL_nil, updL_cons] <;> rfl)); (case hp => first | trivial | (simp; done)))
    | (apply st_m; (case hc => rfl); (case hg => (simp only [go_sem, *] <;> rfl)); (case he => (intro hQz; (try simp only [wantB_t, wantB_f, Bool.and_eq_true, Bool.not_eq_true', Bool.not_true, Bool.not_false, and_true, true_and] at hQz); simp only [go_sem, *] <;> rfl)); (case hp => (intro hQz; (try simp only [wantB_t, wantB_f, Bool.and_eq_true, Bool.not_eq_true', Bool.or_eq_false_iff, decide_eq_true_eq, decide_eq_false_iff_not, beq_iff_eq, beq_eq_false_iff_ne, bne_iff_ne, bne_eq_false_iff_eq, Int.not_lt, Int.not_le, Int.ofNat_lt, Int.ofNat_le] at hQz); first | trivial)))
    | (apply st_c; (case hc => (simp only [go_sem, *] <;> rfl)); (case hl => (simp only [go_sem, *] <;> rfl)); (case hn => (simp only [go_sem, *] <;> rfl)); (case hp => first | exact c1 | (have hXz := c1; simp only [go_sem, *] at hXz; exact hXz)))
    | (apply st_c; (case hc => (simp only [go_sem, *] <;> rfl)); (case hl => (simp only [go_sem, *] <;> rfl)); (case hn => (simp only [go_sem, *] <;> rfl)); (case hp => first | exact c2 | (have hXz := c2; simp only [go_sem, *] at hXz; exact hXz)))
    | (apply st_ct; (case hc => (simp only [go_sem, *] <;> rfl)); (case hl => (simp only [go_sem, *] <;> rfl)); (case hn => (simp only [go_sem, *] <;> rfl)); (case hp => first | exact c3 | (have hXz := c3; simp only [go_sem, *] at hXz; exact hXz)); (case hd => first | exact .inl rfl | (refine .inr ?_; first | exact sps_dry _ | exact ints_dry _ | exact stys_dry _ | (repeat' (first | exact Dry.v _ | exact Dry.any | exact Dry.nils | exact Dry.slE | refine Dry.agg ?_ | refine Dry.tup ?_ | (refine List.forall_mem_cons.2 (And.intro ?_ ?_)) | (intro cQ hQ; cases hQ; done))))); (case hm => first | decide | (simp; done)))
    | (apply st_cd; (case hc => (simp only [go_sem, *] <;> rfl)); (case hl => (simp only [go_sem, *] <;> rfl)); (case hn => (simp only [go_sem, *] <;> rfl)); (case hp => first | exact c4 | (have hXz := c4; simp only [go_sem, *] at hXz; exact hXz)); (case hd => first | exact .v _ | exact .any | exact .nils | (repeat' (first | exact Dry.v _ | exact Dry.any | exact Dry.nils | exact Dry.slE | refine Dry.agg ?_ | refine Dry.tup ?_ | (refine List.forall_mem_cons.2 (And.intro ?_ ?_)) | (intro cQ hQ; cases hQ; done)))); (case hm => first | decide | (simp; done)))
    | (apply st_cod; (case hc => (simp only [go_sem, *] <;> rfl)); (case hl => (simp only [go_sem, *] <;> rfl)); (case hn => (simp only [go_sem, *] <;> rfl)); (case hp => first | exact c5 | (have hXz := c5; simp only [go_sem, *] at hXz; exact hXz)); (case hd => first | exact sps_dry _ | exact ints_dry _ | (repeat' (first | exact Dry.v _ | exact Dry.any | exact Dry.nils | exact Dry.slE | refine Dry.agg ?_ | refine Dry.tup ?_ | (refine List.forall_mem_cons.2 (And.intro ?_ ?_)) | (intro cQ hQ; cases hQ; done)))); (case hm => first | decide | (simp; done)))
    | (apply st_cod; (case hc => (simp only [go_sem, *] <;> rfl)); (case hl => (simp only [go_sem, *] <;> rfl)); (case hn => (simp only [go_sem, *] <;> rfl)); (case hp => first | exact c6 | (have hXz := c6; simp only [go_sem, *] at hXz; exact hXz)); (case hd => first | exact sps_dry _ | exact ints_dry _ | (repeat' (first | exact Dry.v _ | exact Dry.any | exact Dry.nils | exact Dry.slE | refine Dry.agg ?_ | refine Dry.tup ?_ | (refine List.forall_mem_cons.2 (And.intro ?_ ?_)) | (intro cQ hQ; cases hQ; done)))); (case hm => first | decide | (simp; done)))
    | (apply st_cd; (case hc => (simp only [go_sem, *] <;> rfl)); (case hl => (simp only [go_sem, *] <;> rfl)); (case hn => (simp only [go_sem, *] <;> rfl)); (case hp => first | exact c7 | (have hXz := c7; simp only [go_sem, *] at hXz; exact hXz)); (case hd => first | exact .v _ | exact .any | exact .nils | (repeat' (first | exact Dry.v _ | exact Dry.any | exact Dry.nils | exact Dry.slE | refine Dry.agg ?_ | refine Dry.tup ?_ | (refine List.forall_mem_cons.2 (And.intro ?_ ?_)) | (intro cQ hQ; cases hQ; done)))); (case hm => first | decide | (simp; done)))
    | (apply st_cd; (case hc => (simp only [go_sem, *] <;> rfl)); (case hl => (simp only [go_sem, *] <;> rfl)); (case hn => (simp only [go_sem, *] <;> rfl)); (case hp => first | exact c8 | (have hXz := c8; simp only [go_sem, *] at hXz; exact hXz)); (case hd => first | exact .v _ | exact .any | exact .nils | (repeat' (first | exact Dry.v _ | exact Dry.any | exact Dry.nils | exact Dry.slE | refine Dry.agg ?_ | refine Dry.tup ?_ | (refine List.forall_mem_cons.2 (And.intro ?_ ?_)) | (intro cQ hQ; cases hQ; done)))); (case hm => first | decide | (simp; done)))
    | (apply st_g; (case hv => (simp only [go_sem, *] <;> rfl)); all_goals (intro hg; (try simp only [Bool.not_true, Bool.not_false, reduceCtorEq] at hg)))
    | (refine Awp.ret ?_; try simp only [go_sem, *])
    | (refine Awp.skip ?_; try simp only [go_sem, *])
    | (apply Awp.cond; (case hc => (simp only [go_sem, *] <;> rfl)); all_goals (intro hg; (try simp only [Bool.not_true, Bool.not_false, reduceCtorEq] at hg)))
    | refine Awp.seq ?_)
  all_goals first | exact Lower.bool rfl | (exfalso; exact absurd hg (by decide +kernel)) | (exfalso; clear c1 c2 c3 c4 c5 c6 c7 c8; simp_all; done)
end Go.Proofs
end
section
set_option linter.unusedVariables false
set_option linter.unusedSimpArgs false
namespace Go.Proofs
open Go Go.Ab
set_option linter.unusedSimpArgs false
set_option linter.unusedVariables false
structure Call (bs : List By) (l : List Sty) (x : Sty) (h : Int) : Prop where
  ok : dockE bs l = 0
  id : idB x.item = true
  new : l.any (hullB x.item) = false
  rng : fitB x h = false
  room : ¬ (128 : Int) ≤ l.length
section
variable {bs : List By} {l : List Sty} {x : Sty} {h : Int}
end
end Go.Proofs
end
section
set_option linter.unusedVariables false
set_option linter.unusedSimpArgs false
namespace Go.Proofs
open Go Go.Ab
set_option maxHeartbeats 8000000
set_option maxRecDepth 100000
set_option linter.unusedSimpArgs false
set_option linter.unusedVariables false
attribute [local irreducible] Awp aops aopsL Go.Ab.Pure PureOwn
structure Pl where
  bays : List By
  stays : List Sty
def Pl.av (p : Pl) : AV := .agg [.sl (bys p.bays), .sl (stys p.stays)]
attribute [go_sem] Pl.av
theorem few_nil (l : List Sty) (m : Int) (hm : m < 1000) : Pure Tryz.prog 10 [.sl [], .sl (stys l), .v (.int .i64 m)] (.v (.bool (fewB [] l m))) := few_ok [] l m hm
theorem times_ok (l : List Sty) (nm : ByteArray) (w : Sp) : Pure Tryz.prog 4 [.sl (stys l), .v (.string nm), w.av] (.v (.bool true)) := by
  have c0 := few_nil l 60 (by decide)
  cases h1 : fewB [] l 60
  · rw [h1] at c0
    refine fn_pure Tryz.F4 (Nat.le_of_ble_eq_true rfl) ?_; unfold Tryz.ac4
    repeat' (first
    | (apply Awp.sreg; (case hn => (simp only [List.length_cons, List.length_nil, Nat.reduceAdd] <;> rfl)))
    | (refine st_nil ?_)
    | (apply st_a; (case hc => rfl); (case he => (simp only [go_sem, *] <;> rfl)); (case hu => (simp only [updL_nil, updL_cons] <;> rfl)); (case hp => first | trivial))
    | (apply st_m; (case hc => rfl); (case hg => (simp only [go_sem, *] <;> rfl)); (case he => (intro hQz; (try simp only [wantB_t, wantB_f, Bool.and_eq_true, Bool.not_eq_true', Bool.not_true, Bool.not_false, and_true, true_and] at hQz); simp only [go_sem, *] <;> rfl)); (case hp => (intro hQz; (try simp only [wantB_t, wantB_f, Bool.and_eq_true, Bool.not_eq_true', Bool.or_eq_false_iff, decide_eq_true_eq, decide_eq_false_iff_not, beq_iff_eq, beq_eq_false_iff_ne, bne_iff_ne, bne_eq_false_iff_eq, Int.not_lt, Int.not_le, Int.ofNat_lt, Int.ofNat_le] at hQz); first | trivial)))
    | (apply st_c; (case hc => (simp only [go_sem, *] <;> rfl)); (case hl => (simp only [go_sem, *] <;> rfl)); (case hn => (simp only [go_sem, *] <;> rfl)); (case hp => first | exact c0 | (have hXz := c0; simp only [go_sem, *] at hXz; exact hXz)))
    | (apply st_c; (case hc => (simp only [go_sem, *] <;> rfl)); (case hl => (simp only [go_sem, *] <;> rfl)); (case hn => (simp only [go_sem, *] <;> rfl)); (case hp => first | exact alive_ok | (have hXz := alive_ok; simp only [go_sem, *] at hXz; exact hXz)))
    | (refine Awp.ret ?_; try simp only [go_sem, *])
    | (apply Awp.cond; (case hc => (simp only [go_sem, *] <;> rfl)); all_goals (intro hg; (try simp only [Bool.not_true, Bool.not_false, reduceCtorEq] at hg)))
    | refine Awp.seq ?_)
    all_goals repeat' (first | exact Lower.bool (by first | rfl | (simp only [true_and, Bool.true_and, Bool.false_and, Bool.and_true, Bool.and_false, Bool.true_or, Bool.false_or, reduceIte, Bool.false_eq_true, *]; done) | (simp only [true_and, reduceIte, Bool.false_eq_true, *] <;> rfl) | (simp [true_and]; done) | (simp_all [true_and]; done) | omega))
  cases h2 : decide ((100 : Int) < nm.size)
  case true =>
    rw [h1] at c0
    refine fn_pure Tryz.F4 (Nat.le_of_ble_eq_true rfl) ?_; unfold Tryz.ac4
    repeat' (first
    | (apply Awp.sreg; (case hn => (simp only [List.length_cons, List.length_nil, Nat.reduceAdd] <;> rfl)))
    | (refine st_nil ?_)
    | (apply st_a; (case hc => rfl); (case he => (simp only [go_sem, *] <;> rfl)); (case hu => (simp only [updL_nil, updL_cons] <;> rfl)); (case hp => first | trivial))
    | (apply st_m; (case hc => rfl); (case hg => (simp only [go_sem, *] <;> rfl)); (case he => (intro hQz; (try simp only [wantB_t, wantB_f, Bool.and_eq_true, Bool.not_eq_true', Bool.not_true, Bool.not_false, and_true, true_and] at hQz); simp only [go_sem, *] <;> rfl)); (case hp => (intro hQz; (try simp only [wantB_t, wantB_f, Bool.and_eq_true, Bool.not_eq_true', Bool.or_eq_false_iff, decide_eq_true_eq, decide_eq_false_iff_not, beq_iff_eq, beq_eq_false_iff_ne, bne_iff_ne, bne_eq_false_iff_eq, Int.not_lt, Int.not_le, Int.ofNat_lt, Int.ofNat_le] at hQz); first | trivial)))
    | (apply st_c; (case hc => (simp only [go_sem, *] <;> rfl)); (case hl => (simp only [go_sem, *] <;> rfl)); (case hn => (simp only [go_sem, *] <;> rfl)); (case hp => first | exact c0 | (have hXz := c0; simp only [go_sem, *] at hXz; exact hXz)))
    | (apply st_c; (case hc => (simp only [go_sem, *] <;> rfl)); (case hl => (simp only [go_sem, *] <;> rfl)); (case hn => (simp only [go_sem, *] <;> rfl)); (case hp => first | exact alive_ok | (have hXz := alive_ok; simp only [go_sem, *] at hXz; exact hXz)))
    | (refine Awp.ret ?_; try simp only [go_sem, *])
    | (apply Awp.cond; (case hc => (simp only [go_sem, *] <;> rfl)); all_goals (intro hg; (try simp only [Bool.not_true, Bool.not_false, reduceCtorEq] at hg)))
    | refine Awp.seq ?_)
    all_goals repeat' (first | exact Lower.bool (by first | rfl | (simp only [true_and, Bool.true_and, Bool.false_and, Bool.and_true, Bool.and_false, Bool.true_or, Bool.false_or, reduceIte, Bool.false_eq_true, *]; done) | (simp only [true_and, reduceIte, Bool.false_eq_true, *] <;> rfl) | (simp [true_and]; done) | (simp_all [true_and]; done) | omega))
  rw [h1] at c0
  obtain ⟨_, hl, _⟩ := few_get h1
  have c1 := floods_ok l nm (by omega)
  have c2 := rfloods_ok l nm (by omega)
  have c3 := dry_ok l nm w (by omega)
  have c4 := rdry_ok l nm w (by omega)
  have hF := floodZ_len l nm
  have hD : (dryE l nm w).length < 1000000 := by
    have h1 := minus_len (canon (interL (heldL l nm) [w])) (wetR l nm)
    have h2 := canon_len (interL (heldL l nm) [w])
    have h3 := heldL_len l nm
    have h4 : (wetR l nm).length ≤ l.length := Nat.le_trans (wetL_len _) (floodL_len _ nm)
    rw [inter_len] at h2
    simp at h2
    unfold dryE; omega
  have c5 := sameI_ok (floodZ l nm) (by omega)
  have c6 := same_ok (dryE l nm w) hD
  clear h1 hD
  generalize floodZ l nm = F at *
  generalize dryE l nm w = D at *
  refine fn_pure Tryz.F4 (Nat.le_of_ble_eq_true rfl) ?_; unfold Tryz.ac4
  repeat' (first
    | (apply Awp.sreg; (case hn => (simp only [List.length_cons, List.length_nil, Nat.reduceAdd] <;> rfl)))
    | (apply Awp.sdraw; (case hn => (simp only [List.length_cons, List.length_nil, Nat.reduceAdd] <;> rfl)))
    | (refine st_nil ?_)
    | (apply st_a; (case hc => rfl); (case he => (simp only [go_sem, *] <;> rfl)); (case hu => (simp only [updL_nil, updL_cons] <;> rfl)); (case hp => first | trivial))
    | (apply st_m; (case hc => rfl); (case hg => (simp only [go_sem, *] <;> rfl)); (case he => (intro hQz; (try simp only [wantB_t, wantB_f, Bool.and_eq_true, Bool.not_eq_true', Bool.not_true, Bool.not_false, and_true, true_and] at hQz); simp only [go_sem, *] <;> rfl)); (case hp => (intro hQz; (try simp only [wantB_t, wantB_f, Bool.and_eq_true, Bool.not_eq_true', Bool.or_eq_false_iff, decide_eq_true_eq, decide_eq_false_iff_not, beq_iff_eq, beq_eq_false_iff_ne, bne_iff_ne, bne_eq_false_iff_eq, Int.not_lt, Int.not_le, Int.ofNat_lt, Int.ofNat_le] at hQz); first | trivial)))
    | (apply st_c; (case hc => (simp only [go_sem, *] <;> rfl)); (case hl => (simp only [go_sem, *] <;> rfl)); (case hn => (simp only [go_sem, *] <;> rfl)); (case hp => first | exact c0 | (have hXz := c0; simp only [go_sem, *] at hXz; exact hXz)))
    | (refine Awp.ret ?_; try simp only [go_sem, *])
    | (refine Awp.skip ?_; try simp only [go_sem, *])
    | (apply Awp.cond; (case hc => (simp only [go_sem, *] <;> rfl)); all_goals (intro hg; (try simp only [Bool.not_true, Bool.not_false, reduceCtorEq] at hg)))
    | refine Awp.seq ?_
    | (apply sl_a; (case hc => rfl); (case he => (simp only [go_sem, *] <;> rfl)); (case hu => (simp only [updL_nil, updL_cons] <;> rfl)); (case hl => (simp only [List.map_cons, List.map_nil] <;> rfl)); (case hp => first | trivial))
    | (apply sl_ga; (case hb => rfl); (case hv => (simp only [go_sem, *] <;> rfl)); (case he => (simp only [go_sem, *] <;> rfl)); (case hu => (simp only [updL_nil, updL_cons] <;> rfl)); (case hl => (simp only [List.map_cons, List.map_nil] <;> rfl)); (case hp => first | trivial))
    | (apply sl_cg; (case hop => rfl); (case hv => (simp only [go_sem, *] <;> rfl)); (case hc => (simp only [go_sem, *] <;> rfl)); (case hl => (simp only [go_sem, *] <;> rfl)); (case hn => (simp only [go_sem, *] <;> rfl)); (case hp => first | exact alive_ok | (have hXz := alive_ok; simp only [go_sem, *] at hXz; exact hXz)); (case hd => first | exact .inl rfl | exact .inr (.v _) | exact .inr .any | exact .inr .nils); (case hm => first | decide | (simp; done)))
    | (apply sl_cod; (case hc => (simp only [go_sem, *] <;> rfl)); (case hl => (simp only [go_sem, *] <;> rfl)); (case hn => (simp only [go_sem, *] <;> rfl)); (case hp => first | exact c1 | (have hXz := c1; simp only [go_sem, *] at hXz; exact hXz)); (case hd => first | exact sps_dry _ | exact ints_dry _ | (repeat' (first | exact Dry.v _ | exact Dry.any | exact Dry.nils | exact Dry.slE | refine Dry.agg ?_ | refine Dry.tup ?_ | (refine List.forall_mem_cons.2 (And.intro ?_ ?_)) | (intro cQ hQ; cases hQ; done)))); (case hm => first | decide | (simp; done)))
    | (apply sl_cod; (case hc => (simp only [go_sem, *] <;> rfl)); (case hl => (simp only [go_sem, *] <;> rfl)); (case hn => (simp only [go_sem, *] <;> rfl)); (case hp => first | exact c2 | (have hXz := c2; simp only [go_sem, *] at hXz; exact hXz)); (case hd => first | exact sps_dry _ | exact ints_dry _ | (repeat' (first | exact Dry.v _ | exact Dry.any | exact Dry.nils | exact Dry.slE | refine Dry.agg ?_ | refine Dry.tup ?_ | (refine List.forall_mem_cons.2 (And.intro ?_ ?_)) | (intro cQ hQ; cases hQ; done)))); (case hm => first | decide | (simp; done)))
    | (apply sl_cog; (case hop => rfl); (case hv => (simp only [go_sem, *] <;> rfl)); (case hc => (simp only [go_sem, *] <;> rfl)); (case hl => (simp only [go_sem, *] <;> rfl)); (case hn => (simp only [go_sem, *] <;> rfl)); (case hp => first | exact c3 | (have hXz := c3; simp only [go_sem, *] at hXz; exact hXz)); (case hd => first | exact sps_dry _ | exact ints_dry _ | (repeat' (first | exact Dry.v _ | exact Dry.any | exact Dry.nils | exact Dry.slE | refine Dry.agg ?_ | refine Dry.tup ?_ | (refine List.forall_mem_cons.2 (And.intro ?_ ?_)) | (intro cQ hQ; cases hQ; done)))); (case hm => first | decide | (simp; done)))
    | (apply sl_cog; (case hop => rfl); (case hv => (simp only [go_sem, *] <;> rfl)); (case hc => (simp only [go_sem, *] <;> rfl)); (case hl => (simp only [go_sem, *] <;> rfl)); (case hn => (simp only [go_sem, *] <;> rfl)); (case hp => first | exact c4 | (have hXz := c4; simp only [go_sem, *] at hXz; exact hXz)); (case hd => first | exact sps_dry _ | exact ints_dry _ | (repeat' (first | exact Dry.v _ | exact Dry.any | exact Dry.nils | exact Dry.slE | refine Dry.agg ?_ | refine Dry.tup ?_ | (refine List.forall_mem_cons.2 (And.intro ?_ ?_)) | (intro cQ hQ; cases hQ; done)))); (case hm => first | decide | (simp; done)))
    | (apply sl_c; (case hc => (simp only [go_sem, *] <;> rfl)); (case hl => (simp only [go_sem, *] <;> rfl)); (case hn => (simp only [go_sem, *] <;> rfl)); (case hp => first | exact c5 | (have hXz := c5; simp only [go_sem, *] at hXz; exact hXz)); (case hd => first | exact .inl rfl | exact .inr (.v _) | exact .inr .any | exact .inr .nils); (case hm => first | decide | (simp; done)))
    | (apply sl_cg; (case hop => rfl); (case hv => (simp only [go_sem, *] <;> rfl)); (case hc => (simp only [go_sem, *] <;> rfl)); (case hl => (simp only [go_sem, *] <;> rfl)); (case hn => (simp only [go_sem, *] <;> rfl)); (case hp => first | exact c6 | (have hXz := c6; simp only [go_sem, *] at hXz; exact hXz)); (case hd => first | exact .inl rfl | exact .inr (.v _) | exact .inr .any | exact .inr .nils); (case hm => first | decide | (simp; done)))
    | (refine sl_nil (And.intro (by first | exact drawOk_of (by decide +kernel) | (simp only [List.map_cons, List.map_nil]; exact drawOk_of (by decide +kernel)) | decide) ?_)))
  all_goals repeat' (first | exact Lower.bool (by first | rfl | (simp only [true_and, Bool.true_and, Bool.false_and, Bool.and_true, Bool.and_false, Bool.true_or, Bool.false_or, reduceIte, Bool.false_eq_true, *]; done) | (simp only [true_and, reduceIte, Bool.false_eq_true, *] <;> rfl) | (simp [true_and]; done) | (simp_all [true_and]; done) | omega))
end Go.Proofs
end
section
set_option linter.unusedVariables false
set_option linter.unusedSimpArgs false
namespace Go.Proofs
open Go Go.Ab
set_option maxHeartbeats 8000000
set_option maxRecDepth 100000
set_option linter.unusedSimpArgs false
set_option linter.unusedVariables false
attribute [local irreducible] Awp aops aopsL Go.Ab.Pure PureOwn
def skipB (a b : Sty) : Bool := !(b.bay.toList == a.bay.toList) || decide (b.b ≤ a.a) || decide (a.b ≤ b.a)
def badB (a b : Sty) : Bool := (a.b != b.b) || (decide (a.x < IntKind.i64.wrap (b.x + b.len)) && decide (b.x < IntKind.i64.wrap (a.x + a.len)) && decide (a.y < IntKind.i64.wrap (b.y + b.wid)) && decide (b.y < IntKind.i64.wrap (a.y + a.wid)))
end Go.Proofs
end
section
set_option linter.unusedVariables false
set_option linter.unusedSimpArgs false
namespace Go.Proofs
open Go Go.Ab
set_option maxHeartbeats 8000000
set_option maxRecDepth 100000
set_option linter.unusedSimpArgs false
set_option linter.unusedVariables false
attribute [local irreducible] Awp aops aopsL Go.Ab.Pure PureOwn
end Go.Proofs
end
section
set_option linter.unusedVariables false
set_option linter.unusedSimpArgs false
namespace Go.Proofs
open Go Go.Ab Go.ChangeShapes Go.WideShapes Go.ChangeAt Go.RowKit
set_option maxRecDepth 100000
theorem rest_laid : laidOutB Tryz.prog = true := by kernel_rfl
theorem rest_own : ownKnob Tryz.prog.godebug = none := by kernel_rfl
theorem shape_sty {qs : List AV} (h : Shape Tryz.prog 3 43 qs) : ∃ x : Sty, AV.agg qs = x.av := by
  unfold Shape at h
  rw [Tryz.underlying43] at h
  simp only [List.map_cons, List.map_nil, FieldsShape] at h
  obtain ⟨_, _, rfl, h0, _, _, rfl, h1, _, _, rfl, h2, _, _, rfl, h3, _, _, rfl, h4, _, _, rfl, h5, rfl⟩ := h
  unfold Shape at h0 h1 h2 h3 h4 h5
  simp only [Tryz.underlying3, Tryz.underlying9, Tryz.underlying41, Tryz.underlying30, List.map_cons, List.map_nil, FieldsShape] at h0 h1 h2 h3 h4 h5
  obtain ⟨_, _, rfl, h20, _, _, rfl, h21, rfl⟩ := h2
  obtain ⟨_, _, rfl, h50, _, _, rfl, h51, rfl⟩ := h5
  unfold Shape at h20 h21 h50 h51
  simp only [Tryz.underlying3] at h20 h21 h50 h51
  obtain ⟨x0, rfl, _⟩ := h0
  obtain ⟨x1, rfl, _⟩ := h1
  obtain ⟨x2, rfl, _⟩ := h20
  obtain ⟨x3, rfl, _⟩ := h21
  obtain ⟨x4, rfl, _⟩ := h3
  obtain ⟨x5, rfl, _⟩ := h4
  obtain ⟨x6, rfl, _⟩ := h50
  obtain ⟨x7, rfl, _⟩ := h51
  exact ⟨⟨x0, x1, x2, x3, x4, x5, x6, x7⟩, rfl⟩
theorem shape_stys {qs : List AV} (h : Shape Tryz.prog 4 23 qs) : ∃ l : List Sty, qs = [.sl (stys l)] := by
  unfold Shape at h
  rw [Tryz.underlying23] at h
  obtain ⟨es, rfl, _, he⟩ := h
  obtain ⟨l, rfl⟩ := map_shape (f := Sty.cells) fun q hq => by
    obtain ⟨x, hx⟩ := shape_sty (he q hq)
    refine ⟨x, ?_⟩
    have : AV.agg q = .agg x.cells := hx
    injection this
  exact ⟨l, rfl⟩
theorem shape_span {qs : List AV} (h : Shape Tryz.prog 2 30 qs) : ∃ x : Sp, AV.agg qs = x.av := by
  unfold Shape at h
  rw [Tryz.underlying30] at h
  simp only [List.map_cons, List.map_nil, FieldsShape] at h
  obtain ⟨_, _, rfl, h0, _, _, rfl, h1, rfl⟩ := h
  unfold Shape at h0 h1
  simp only [Tryz.underlying3] at h0 h1
  obtain ⟨x0, rfl, _⟩ := h0
  obtain ⟨x1, rfl, _⟩ := h1
  exact ⟨⟨x0, x1⟩, rfl⟩
section
variable {H : Type} {enc : TypeId × Value → H} {w : World} {spare : Nat → Bool} {held : Bool} {r : Reach} {b0 : Nat} {v : Value} {d : DataW H} {p : List MemPlace}
theorem arg_stys (hval : Value.okWide Tryz.prog w r b0 23 v) (hd : DataW.Trod enc Tryz.prog w 0 spare held 23 v d p) : ∃ l : List Sty, PureV (fun g => g < w.heap.size ∧ True) w (.sl (stys l)) v := by
  obtain ⟨a, hs, hp⟩ := arg_slice 4 Tryz.underlying23 (by kernel_rfl) hval hd
  obtain ⟨l, e⟩ := shape_stys hs
  obtain rfl : a = .sl (stys l) := by simpa using e
  exact ⟨l, hp⟩
theorem arg_span (hval : Value.okWide Tryz.prog w r b0 30 v) (hd : DataW.Trod enc Tryz.prog w 0 spare held 30 v d p) : ∃ x : Sp, PureV (fun g => g < w.heap.size ∧ True) w x.av v := by
  obtain ⟨qs, hs, hp⟩ := arg_struct 2 Tryz.underlying30 (by kernel_rfl) hval hd
  obtain ⟨x, e⟩ := shape_span hs
  exact ⟨x, e ▸ hp⟩
end
open YtadpljebgkfeoaaGreatDoor in
/-- The settled world, the two tables of unicode/utf8 as their initialisers lay them. -/
noncomputable def laidWorld (os : Os) : World :=
  let w0 := World.holding Tryz.prog os ⟨#[], #[], []⟩
  let put (h : Array Obj) (g : Nat) (cs : Array Value) : Array Obj := h.modify g fun
    | .cells _ t frozen => .cells cs t frozen
    | o => o
  let h1 := put w0.heap 1 (laidVals 9 Rows.laid_unicode_utf8_first).toArray
  let h2 := put h1 2 (laidVals 9 (Rows.laid_unicode_utf8_acceptRanges (H := Unit))).toArray
  { w0 with heap := h2 }
open YtadpljebgkfeoaaGreatDoor in
theorem laid_met0 (os : Os) (args : Array Value) : laidMet Tryz.prog Rows.dockChecksRow.laid ((laidWorld os).forCall (fun _ _ => 0) ⟨#[], args, []⟩).memory :=
  laidMet_of_run' 8 (by kernel_rfl) (by kernel_rfl)
end Go.Proofs
end
