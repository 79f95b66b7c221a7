import Derived.Test.YtdgacfkgodbajaaGreatDoorPYD
import Derived.Sort.Walk0
import Derived.ProofKit
import Derived.OpenShut
import Derived.Test.YtdgacfkgodbajaaGreatDoorCards
import Derived.Test.YtdgacfkgodbajaaGreatDoorTie
import Derived.WalkKit
import Derived.Deep.DeepHandedRow
import Derived.Lib.LaidTab
section
set_option linter.unusedVariables false
set_option linter.unusedSimpArgs false
namespace Go.Proofs
open Go Go.Ab
set_option maxHeartbeats 8000000
set_option maxRecDepth 100000
attribute [local irreducible] Awp aops aopsL Go.Ab.Pure PureOwn
theorem indexPt1_ok (l : List Pt) (g : Nat) (cs : List AV) (p : Pt → Bool) (hl : l.length < 1000000) (hp : ∀ i, i < l.length → Pure Tryz.prog g ((l.getD i zeroPt).av :: [.rp cs]) (.v (.bool (p (l.getD i zeroPt))))) :
    Pure Tryz.prog 34 [.sl (pts l), .fn g [.rp cs]] (.v (.int .i64 (idxF p l))) := by
  refine fn_pure Tryz.F34 (Nat.le_of_ble_eq_true rfl) ?_; unfold Tryz.ac34
  repeat' (first
 | (apply Awp.sreg; (case hn => (simp only [List.length_cons, List.length_nil, Nat.reduceAdd] <;> rfl)))
 | (refine st_nil ?_)
 | (apply st_a; (case hc => rfl); (case he => (simp only [go_sem, *] <;> rfl)); (case hu => (simp only [updL_nil, updL_cons] <;> rfl)); (case hp => first | trivial))
 | refine Awp.block ?_
 | refine Awp.seq ?_)
  refine Awp.loop (fun i : Nat => i ≤ l.length ∧ ∀ j, j < i → p (l.getD j zeroPt) = false) 40 (fun i => mkS [(0, .sl (pts l)), (1, .fn g [.rp cs]), (7, .v (.int .i64 l.length)), (8, .v (.int .i64 i))] []) (fun i => l.length - i) 0 (by simp) ?_ ?_
  · (apply Ghost.mk [] []; (case hdead => rfl); (case hinj => rfl); (case hV => (simp only [go_sem, *]) <;> (repeat' (first | refine And.intro ?_ ?_ | exact View.int (by first | rfl | omega | (simp; done) | (rw [wrap_i64] <;> (try simp only [Int.natCast_add]) <;> omega) | (simp [*]; done)) | (refine View.fnF ?_; (simp [AV.flat]; done))))); (case hB => (simp only [go_sem, *]) <;> (repeat' (first | skip; done))))
  · intro i ⟨hi, hj⟩
    by_cases hlt : i < l.length
    · have hlt' : (i : Int) < l.length := by omega
      have hat := pts_at l i hlt
      have hz : ((l.getD i zeroPt).cells).length = 4 := rfl
      have hpi := hp i hlt
      clear hp
      repeat' (first
 | (apply Awp.sreg; (case hn => (simp only [List.length_cons, List.length_nil, Nat.reduceAdd] <;> rfl)))
 | (refine st_nil ?_)
 | (apply st_a; (case hc => rfl); (case he => (simp only [go_sem, *] <;> rfl)); (case hu => (simp only [updL_nil, updL_cons] <;> rfl)); (case hp => first | trivial | omega))
 | (apply st_c; (case hc => (simp only [go_sem, *] <;> rfl)); (case hl => (simp only [go_sem, *] <;> rfl)); (case hn => (simp only [go_sem, *] <;> rfl)); (case hp => first | exact hpi | (have hXz := hpi; simp only [go_sem, *] at hXz; exact hXz)))
 | (apply Awp.reg; (case hn => (simp only [List.length_cons, List.length_nil, Nat.reduceAdd] <;> rfl)))
 | (refine Awp.ret ?_; try simp only [go_sem, *])
 | (refine Awp.skip ?_; try simp only [go_sem, *])
 | refine Awp.block ?_
 | (apply Awp.cond; (case hc => (simp only [go_sem, *] <;> rfl)); all_goals (intro hg; (try simp only [Bool.not_true, Bool.not_false, reduceCtorEq] at hg)))
 | refine Awp.seq ?_)
      · exact Lower.int (idxF_in hlt hg hj).symm
      · refine ⟨i + 1, ⟨by omega, ltSucc hj hg⟩, by omega, ?_⟩
        (apply Ghost.mk [] []; (case hdead => rfl); (case hinj => rfl); (case hV => (simp only [go_sem, *]) <;> (repeat' (first | refine And.intro ?_ ?_ | exact View.int (by first | rfl | omega | (simp; done) | (rw [wrap_i64] <;> (try simp only [Int.natCast_add]) <;> omega) | (simp [*]; done)) | (refine View.fnF ?_; (simp [AV.flat]; done))))); (case hB => (simp only [go_sem, *]) <;> (repeat' (first | skip; done))))
    · have hlt' : ¬ (i : Int) < l.length := by omega
      repeat' (first
 | (apply Awp.sreg; (case hn => (simp only [List.length_cons, List.length_nil, Nat.reduceAdd] <;> rfl)))
 | (refine st_nil ?_)
 | (apply st_a; (case hc => rfl); (case he => (simp only [go_sem, *] <;> rfl)); (case hu => (simp only [updL_nil, updL_cons] <;> rfl)); (case hp => first | trivial))
 | (refine Awp.ret ?_; try simp only [go_sem, *])
 | (refine Awp.exit ?_; try simp only [go_sem, *])
 | (apply Awp.cond; (case hc => (simp only [go_sem, *] <;> rfl)); all_goals (intro hg; (try simp only [Bool.not_true, Bool.not_false, reduceCtorEq] at hg); (try have hg' := hg); (try simp only [decide_eq_true_eq, decide_eq_false_iff_not, Bool.and_eq_true, Bool.or_eq_false_iff, bne_iff_ne, bne_eq_false_iff_eq, beq_iff_eq, beq_eq_false_iff_ne, Int.not_lt, Int.not_le, Int.ofNat_lt, Int.ofNat_le, Int.natCast_inj] at hg')))
 | refine Awp.seq ?_)
      exact Lower.int (idxF_out (Nat.le_of_not_lt hlt) hj).symm
theorem containsPt1_ok (l : List Pt) (g : Nat) (cs : List AV) (p : Pt → Bool) (hl : l.length < 1000000) (hp : ∀ i, i < l.length → Pure Tryz.prog g ((l.getD i zeroPt).av :: [.rp cs]) (.v (.bool (p (l.getD i zeroPt))))) :
    Pure Tryz.prog 32 [.sl (pts l), .fn g [.rp cs]] (.v (.bool (l.any p))) := by
  have h := indexPt1_ok l g cs p hl hp
  rw [← idxF_any]
  refine fn_pure Tryz.F32 (Nat.le_of_ble_eq_true rfl) ?_; unfold Tryz.ac32
  repeat' (first
 | (apply Awp.sreg; (case hn => (simp only [List.length_cons, List.length_nil, Nat.reduceAdd] <;> rfl)))
 | (refine st_nil ?_)
 | (apply st_a; (case hc => rfl); (case he => (simp only [go_sem, *] <;> rfl)); (case hu => (simp only [updL_nil, updL_cons] <;> rfl)); (case hp => first | trivial))
 | (apply st_c; (case hc => (simp only [go_sem, *] <;> rfl)); (case hl => (simp only [go_sem, *] <;> rfl)); (case hn => (simp only [go_sem, *] <;> rfl)); (case hp => first | exact h | (have hXz := h; simp only [go_sem, *] at hXz; exact hXz)))
 | (refine Awp.ret ?_; try simp only [go_sem, *]))
  all_goals repeat' (first | exact Lower.bool (by first | rfl | (simp only [true_and, Bool.true_and, Bool.false_and, Bool.and_true, Bool.and_false, Bool.true_or, Bool.false_or, reduceIte, Bool.false_eq_true, *]; done) | (simp only [true_and, reduceIte, Bool.false_eq_true, *] <;> rfl) | (simp [true_and]; done) | (simp_all [true_and]; done) | omega))
theorem indexPt2_ok (l : List Pt) (g : Nat) (cs ct : List AV) (p : Pt → Bool) (hl : l.length < 1000000) (hp : ∀ i, i < l.length → Pure Tryz.prog g ((l.getD i zeroPt).av :: [.rp cs, .rp ct]) (.v (.bool (p (l.getD i zeroPt))))) :
    Pure Tryz.prog 34 [.sl (pts l), .fn g [.rp cs, .rp ct]] (.v (.int .i64 (idxF p l))) := by
  refine fn_pure Tryz.F34 (Nat.le_of_ble_eq_true rfl) ?_; unfold Tryz.ac34
  repeat' (first
 | (apply Awp.sreg; (case hn => (simp only [List.length_cons, List.length_nil, Nat.reduceAdd] <;> rfl)))
 | (refine st_nil ?_)
 | (apply st_a; (case hc => rfl); (case he => (simp only [go_sem, *] <;> rfl)); (case hu => (simp only [updL_nil, updL_cons] <;> rfl)); (case hp => first | trivial))
 | refine Awp.block ?_
 | refine Awp.seq ?_)
  refine Awp.loop (fun i : Nat => i ≤ l.length ∧ ∀ j, j < i → p (l.getD j zeroPt) = false) 40 (fun i => mkS [(0, .sl (pts l)), (1, .fn g [.rp cs, .rp ct]), (7, .v (.int .i64 l.length)), (8, .v (.int .i64 i))] []) (fun i => l.length - i) 0 (by simp) ?_ ?_
  · (apply Ghost.mk [] []; (case hdead => rfl); (case hinj => rfl); (case hV => (simp only [go_sem, *]) <;> (repeat' (first | refine And.intro ?_ ?_ | exact View.int (by first | rfl | omega | (simp; done) | (rw [wrap_i64] <;> (try simp only [Int.natCast_add]) <;> omega) | (simp [*]; done)) | (refine View.fnF ?_; (simp [AV.flat]; done))))); (case hB => (simp only [go_sem, *]) <;> (repeat' (first | skip; done))))
  · intro i ⟨hi, hj⟩
    by_cases hlt : i < l.length
    · have hlt' : (i : Int) < l.length := by omega
      have hat := pts_at l i hlt
      have hz : ((l.getD i zeroPt).cells).length = 4 := rfl
      have hpi := hp i hlt
      clear hp
      repeat' (first
 | (apply Awp.sreg; (case hn => (simp only [List.length_cons, List.length_nil, Nat.reduceAdd] <;> rfl)))
 | (refine st_nil ?_)
 | (apply st_a; (case hc => rfl); (case he => (simp only [go_sem, *] <;> rfl)); (case hu => (simp only [updL_nil, updL_cons] <;> rfl)); (case hp => first | trivial | omega))
 | (apply st_c; (case hc => (simp only [go_sem, *] <;> rfl)); (case hl => (simp only [go_sem, *] <;> rfl)); (case hn => (simp only [go_sem, *] <;> rfl)); (case hp => first | exact hpi | (have hXz := hpi; simp only [go_sem, *] at hXz; exact hXz)))
 | (apply Awp.reg; (case hn => (simp only [List.length_cons, List.length_nil, Nat.reduceAdd] <;> rfl)))
 | (refine Awp.ret ?_; try simp only [go_sem, *])
 | (refine Awp.skip ?_; try simp only [go_sem, *])
 | refine Awp.block ?_
 | (apply Awp.cond; (case hc => (simp only [go_sem, *] <;> rfl)); all_goals (intro hg; (try simp only [Bool.not_true, Bool.not_false, reduceCtorEq] at hg)))
 | refine Awp.seq ?_)
      · exact Lower.int (idxF_in hlt hg hj).symm
      · refine ⟨i + 1, ⟨by omega, ltSucc hj hg⟩, by omega, ?_⟩
        (apply Ghost.mk [] []; (case hdead => rfl); (case hinj => rfl); (case hV => (simp only [go_sem, *]) <;> (repeat' (first | refine And.intro ?_ ?_ | exact View.int (by first | rfl | omega | (simp; done) | (rw [wrap_i64] <;> (try simp only [Int.natCast_add]) <;> omega) | (simp [*]; done)) | (refine View.fnF ?_; (simp [AV.flat]; done))))); (case hB => (simp only [go_sem, *]) <;> (repeat' (first | skip; done))))
    · have hlt' : ¬ (i : Int) < l.length := by omega
      repeat' (first
 | (apply Awp.sreg; (case hn => (simp only [List.length_cons, List.length_nil, Nat.reduceAdd] <;> rfl)))
 | (refine st_nil ?_)
 | (apply st_a; (case hc => rfl); (case he => (simp only [go_sem, *] <;> rfl)); (case hu => (simp only [updL_nil, updL_cons] <;> rfl)); (case hp => first | trivial))
 | (refine Awp.ret ?_; try simp only [go_sem, *])
 | (refine Awp.exit ?_; try simp only [go_sem, *])
 | (apply Awp.cond; (case hc => (simp only [go_sem, *] <;> rfl)); all_goals (intro hg; (try simp only [Bool.not_true, Bool.not_false, reduceCtorEq] at hg); (try have hg' := hg); (try simp only [decide_eq_true_eq, decide_eq_false_iff_not, Bool.and_eq_true, Bool.or_eq_false_iff, bne_iff_ne, bne_eq_false_iff_eq, beq_iff_eq, beq_eq_false_iff_ne, Int.not_lt, Int.not_le, Int.ofNat_lt, Int.ofNat_le, Int.natCast_inj] at hg')))
 | refine Awp.seq ?_)
      exact Lower.int (idxF_out (Nat.le_of_not_lt hlt) hj).symm
theorem containsPt2_ok (l : List Pt) (g : Nat) (cs ct : List AV) (p : Pt → Bool) (hl : l.length < 1000000) (hp : ∀ i, i < l.length → Pure Tryz.prog g ((l.getD i zeroPt).av :: [.rp cs, .rp ct]) (.v (.bool (p (l.getD i zeroPt))))) :
    Pure Tryz.prog 32 [.sl (pts l), .fn g [.rp cs, .rp ct]] (.v (.bool (l.any p))) := by
  have h := indexPt2_ok l g cs ct p hl hp
  rw [← idxF_any]
  refine fn_pure Tryz.F32 (Nat.le_of_ble_eq_true rfl) ?_; unfold Tryz.ac32
  repeat' (first
 | (apply Awp.sreg; (case hn => (simp only [List.length_cons, List.length_nil, Nat.reduceAdd] <;> rfl)))
 | (refine st_nil ?_)
 | (apply st_a; (case hc => rfl); (case he => (simp only [go_sem, *] <;> rfl)); (case hu => (simp only [updL_nil, updL_cons] <;> rfl)); (case hp => first | trivial))
 | (apply st_c; (case hc => (simp only [go_sem, *] <;> rfl)); (case hl => (simp only [go_sem, *] <;> rfl)); (case hn => (simp only [go_sem, *] <;> rfl)); (case hp => first | exact h | (have hXz := h; simp only [go_sem, *] at hXz; exact hXz)))
 | (refine Awp.ret ?_; try simp only [go_sem, *]))
  all_goals repeat' (first | exact Lower.bool (by first | rfl | (simp only [true_and, Bool.true_and, Bool.false_and, Bool.and_true, Bool.and_false, Bool.true_or, Bool.false_or, reduceIte, Bool.false_eq_true, *]; done) | (simp only [true_and, reduceIte, Bool.false_eq_true, *] <;> rfl) | (simp [true_and]; done) | (simp_all [true_and]; done) | omega))
theorem indexTe1_ok (l : List Te) (g : Nat) (cs : List AV) (p : Te → Bool) (hl : l.length < 1000000) (hp : ∀ i, i < l.length → Pure Tryz.prog g ((l.getD i zeroTe).av :: [.rp cs]) (.v (.bool (p (l.getD i zeroTe))))) :
    Pure Tryz.prog 59 [.sl (tes l), .fn g [.rp cs]] (.v (.int .i64 (idxF p l))) := by
  refine fn_pure Tryz.F59 (Nat.le_of_ble_eq_true rfl) ?_; unfold Tryz.ac59
  repeat' (first
 | (apply Awp.sreg; (case hn => (simp only [List.length_cons, List.length_nil, Nat.reduceAdd] <;> rfl)))
 | (refine st_nil ?_)
 | (apply st_a; (case hc => rfl); (case he => (simp only [go_sem, *] <;> rfl)); (case hu => (simp only [updL_nil, updL_cons] <;> rfl)); (case hp => first | trivial))
 | refine Awp.block ?_
 | refine Awp.seq ?_)
  refine Awp.loop (fun i : Nat => i ≤ l.length ∧ ∀ j, j < i → p (l.getD j zeroTe) = false) 40 (fun i => mkS [(0, .sl (tes l)), (1, .fn g [.rp cs]), (7, .v (.int .i64 l.length)), (8, .v (.int .i64 i))] []) (fun i => l.length - i) 0 (by simp) ?_ ?_
  · (apply Ghost.mk [] []; (case hdead => rfl); (case hinj => rfl); (case hV => (simp only [go_sem, *]) <;> (repeat' (first | refine And.intro ?_ ?_ | exact View.int (by first | rfl | omega | (simp; done) | (rw [wrap_i64] <;> (try simp only [Int.natCast_add]) <;> omega) | (simp [*]; done)) | (refine View.fnF ?_; (simp [AV.flat]; done))))); (case hB => (simp only [go_sem, *]) <;> (repeat' (first | skip; done))))
  · intro i ⟨hi, hj⟩
    by_cases hlt : i < l.length
    · have hlt' : (i : Int) < l.length := by omega
      have hat := tes_at l i hlt
      have hz : ((l.getD i zeroTe).cells).length = 3 := rfl
      have hpi := hp i hlt
      clear hp
      repeat' (first
 | (apply Awp.sreg; (case hn => (simp only [List.length_cons, List.length_nil, Nat.reduceAdd] <;> rfl)))
 | (refine st_nil ?_)
 | (apply st_a; (case hc => rfl); (case he => (simp only [go_sem, *] <;> rfl)); (case hu => (simp only [updL_nil, updL_cons] <;> rfl)); (case hp => first | trivial | omega))
 | (apply st_c; (case hc => (simp only [go_sem, *] <;> rfl)); (case hl => (simp only [go_sem, *] <;> rfl)); (case hn => (simp only [go_sem, *] <;> rfl)); (case hp => first | exact hpi | (have hXz := hpi; simp only [go_sem, *] at hXz; exact hXz)))
 | (apply Awp.reg; (case hn => (simp only [List.length_cons, List.length_nil, Nat.reduceAdd] <;> rfl)))
 | (refine Awp.ret ?_; try simp only [go_sem, *])
 | (refine Awp.skip ?_; try simp only [go_sem, *])
 | refine Awp.block ?_
 | (apply Awp.cond; (case hc => (simp only [go_sem, *] <;> rfl)); all_goals (intro hg; (try simp only [Bool.not_true, Bool.not_false, reduceCtorEq] at hg)))
 | refine Awp.seq ?_)
      · exact Lower.int (idxF_in hlt hg hj).symm
      · refine ⟨i + 1, ⟨by omega, ltSucc hj hg⟩, by omega, ?_⟩
        (apply Ghost.mk [] []; (case hdead => rfl); (case hinj => rfl); (case hV => (simp only [go_sem, *]) <;> (repeat' (first | refine And.intro ?_ ?_ | exact View.int (by first | rfl | omega | (simp; done) | (rw [wrap_i64] <;> (try simp only [Int.natCast_add]) <;> omega) | (simp [*]; done)) | (refine View.fnF ?_; (simp [AV.flat]; done))))); (case hB => (simp only [go_sem, *]) <;> (repeat' (first | skip; done))))
    · have hlt' : ¬ (i : Int) < l.length := by omega
      repeat' (first
 | (apply Awp.sreg; (case hn => (simp only [List.length_cons, List.length_nil, Nat.reduceAdd] <;> rfl)))
 | (refine st_nil ?_)
 | (apply st_a; (case hc => rfl); (case he => (simp only [go_sem, *] <;> rfl)); (case hu => (simp only [updL_nil, updL_cons] <;> rfl)); (case hp => first | trivial))
 | (refine Awp.ret ?_; try simp only [go_sem, *])
 | (refine Awp.exit ?_; try simp only [go_sem, *])
 | (apply Awp.cond; (case hc => (simp only [go_sem, *] <;> rfl)); all_goals (intro hg; (try simp only [Bool.not_true, Bool.not_false, reduceCtorEq] at hg); (try have hg' := hg); (try simp only [decide_eq_true_eq, decide_eq_false_iff_not, Bool.and_eq_true, Bool.or_eq_false_iff, bne_iff_ne, bne_eq_false_iff_eq, beq_iff_eq, beq_eq_false_iff_ne, Int.not_lt, Int.not_le, Int.ofNat_lt, Int.ofNat_le, Int.natCast_inj] at hg')))
 | refine Awp.seq ?_)
      exact Lower.int (idxF_out (Nat.le_of_not_lt hlt) hj).symm
theorem indexSt1_ok (l : List ByteArray) (g : Nat) (cs : List AV) (p : ByteArray → Bool) (hl : l.length < 1000000) (hp : ∀ i, i < l.length → Pure Tryz.prog g (.v (.string (l.getD i zeroB)) :: [.rp cs]) (.v (.bool (p (l.getD i zeroB))))) :
    Pure Tryz.prog 73 [.sl (strs l), .fn g [.rp cs]] (.v (.int .i64 (idxF p l))) := by
  have hln : (strs l).length = l.length := by simp [strs]
  refine fn_pure Tryz.F73 (Nat.le_of_ble_eq_true rfl) ?_; unfold Tryz.ac73
  repeat' (first
 | (apply Awp.sreg; (case hn => (simp only [List.length_cons, List.length_nil, Nat.reduceAdd] <;> rfl)))
 | (refine st_nil ?_)
 | (apply st_a; (case hc => rfl); (case he => (simp only [go_sem, *] <;> rfl)); (case hu => (simp only [updL_nil, updL_cons] <;> rfl)); (case hp => first | trivial))
 | refine Awp.block ?_
 | refine Awp.seq ?_)
  refine Awp.loop (fun i : Nat => i ≤ l.length ∧ ∀ j, j < i → p (l.getD j zeroB) = false) 40 (fun i => mkS [(0, .sl (strs l)), (1, .fn g [.rp cs]), (7, .v (.int .i64 l.length)), (8, .v (.int .i64 i))] []) (fun i => l.length - i) 0 (by simp) ?_ ?_
  · (apply Ghost.mk [] []; (case hdead => rfl); (case hinj => rfl); (case hV => (simp only [go_sem, *]) <;> (repeat' (first | refine And.intro ?_ ?_ | exact View.int (by first | rfl | omega | (simp; done) | (rw [wrap_i64] <;> (try simp only [Int.natCast_add]) <;> omega) | (simp [*]; done)) | (refine View.fnF ?_; (simp [AV.flat]; done))))); (case hB => (simp only [go_sem, *]) <;> (repeat' (first | skip; done))))
  · intro i ⟨hi, hj⟩
    by_cases hlt : i < l.length
    · have hlt' : (i : Int) < l.length := by omega
      have hat := strs_at0 l i hlt
      have hpi := hp i hlt
      clear hp
      repeat' (first
 | (apply Awp.sreg; (case hn => (simp only [List.length_cons, List.length_nil, Nat.reduceAdd] <;> rfl)))
 | (refine st_nil ?_)
 | (apply st_a; (case hc => rfl); (case he => (simp only [go_sem, *] <;> rfl)); (case hu => (simp only [updL_nil, updL_cons] <;> rfl)); (case hp => first | trivial | omega))
 | (apply st_c; (case hc => (simp only [go_sem, *] <;> rfl)); (case hl => (simp only [go_sem, *] <;> rfl)); (case hn => (simp only [go_sem, *] <;> rfl)); (case hp => first | exact hpi | (have hXz := hpi; simp only [go_sem, *] at hXz; exact hXz)))
 | (apply Awp.reg; (case hn => (simp only [List.length_cons, List.length_nil, Nat.reduceAdd] <;> rfl)))
 | (refine Awp.ret ?_; try simp only [go_sem, *])
 | (refine Awp.skip ?_; try simp only [go_sem, *])
 | refine Awp.block ?_
 | (apply Awp.cond; (case hc => (simp only [go_sem, *] <;> rfl)); all_goals (intro hg; (try simp only [Bool.not_true, Bool.not_false, reduceCtorEq] at hg)))
 | refine Awp.seq ?_)
      · exact Lower.int (idxF_in hlt hg hj).symm
      · refine ⟨i + 1, ⟨by omega, ltSucc hj hg⟩, by omega, ?_⟩
        (apply Ghost.mk [] []; (case hdead => rfl); (case hinj => rfl); (case hV => (simp only [go_sem, *]) <;> (repeat' (first | refine And.intro ?_ ?_ | exact View.int (by first | rfl | omega | (simp; done) | (rw [wrap_i64] <;> (try simp only [Int.natCast_add]) <;> omega) | (simp [*]; done)) | (refine View.fnF ?_; (simp [AV.flat]; done))))); (case hB => (simp only [go_sem, *]) <;> (repeat' (first | skip; done))))
    · have hlt' : ¬ (i : Int) < l.length := by omega
      repeat' (first
 | (apply Awp.sreg; (case hn => (simp only [List.length_cons, List.length_nil, Nat.reduceAdd] <;> rfl)))
 | (refine st_nil ?_)
 | (apply st_a; (case hc => rfl); (case he => (simp only [go_sem, *] <;> rfl)); (case hu => (simp only [updL_nil, updL_cons] <;> rfl)); (case hp => first | trivial))
 | (refine Awp.ret ?_; try simp only [go_sem, *])
 | (refine Awp.exit ?_; try simp only [go_sem, *])
 | (apply Awp.cond; (case hc => (simp only [go_sem, *] <;> rfl)); all_goals (intro hg; (try simp only [Bool.not_true, Bool.not_false, reduceCtorEq] at hg); (try have hg' := hg); (try simp only [decide_eq_true_eq, decide_eq_false_iff_not, Bool.and_eq_true, Bool.or_eq_false_iff, bne_iff_ne, bne_eq_false_iff_eq, beq_iff_eq, beq_eq_false_iff_ne, Int.not_lt, Int.not_le, Int.ofNat_lt, Int.ofNat_le, Int.natCast_inj] at hg')))
 | refine Awp.seq ?_)
      exact Lower.int (idxF_out (Nat.le_of_not_lt hlt) hj).symm
theorem containsSt1_ok (l : List ByteArray) (g : Nat) (cs : List AV) (p : ByteArray → Bool) (hl : l.length < 1000000) (hp : ∀ i, i < l.length → Pure Tryz.prog g (.v (.string (l.getD i zeroB)) :: [.rp cs]) (.v (.bool (p (l.getD i zeroB))))) :
    Pure Tryz.prog 61 [.sl (strs l), .fn g [.rp cs]] (.v (.bool (l.any p))) := by
  have h := indexSt1_ok l g cs p hl hp
  rw [← idxF_any]
  refine fn_pure Tryz.F61 (Nat.le_of_ble_eq_true rfl) ?_; unfold Tryz.ac61
  repeat' (first
 | (apply Awp.sreg; (case hn => (simp only [List.length_cons, List.length_nil, Nat.reduceAdd] <;> rfl)))
 | (refine st_nil ?_)
 | (apply st_a; (case hc => rfl); (case he => (simp only [go_sem, *] <;> rfl)); (case hu => (simp only [updL_nil, updL_cons] <;> rfl)); (case hp => first | trivial))
 | (apply st_c; (case hc => (simp only [go_sem, *] <;> rfl)); (case hl => (simp only [go_sem, *] <;> rfl)); (case hn => (simp only [go_sem, *] <;> rfl)); (case hp => first | exact h | (have hXz := h; simp only [go_sem, *] at hXz; exact hXz)))
 | (refine Awp.ret ?_; try simp only [go_sem, *]))
  all_goals repeat' (first | exact Lower.bool (by first | rfl | (simp only [true_and, Bool.true_and, Bool.false_and, Bool.and_true, Bool.and_false, Bool.true_or, Bool.false_or, reduceIte, Bool.false_eq_true, *]; done) | (simp only [true_and, reduceIte, Bool.false_eq_true, *] <;> rfl) | (simp [true_and]; done) | (simp_all [true_and]; done) | omega))

def hasP (k t : Int) (q : Pt) : Bool := (q.k == k) && decide (q.a ≤ t) && decide (t < q.b)
def validB (l : List Pt) (k t : Int) : Bool := l.any (hasP k t)
theorem valid1_ok (k t : Int) (q : Pt) : Pure Tryz.prog 39 [q.av, .rp [.v (.int .i64 k)], .rp [.v (.int .i64 t)]] (.v (.bool (hasP k t q))) := by
  unfold hasP
  refine fn_pure Tryz.F39 (Nat.le_of_ble_eq_true rfl) ?_; unfold Tryz.ac39
  repeat' (first
 | (apply Awp.sreg; (case hn => (simp only [List.length_cons, List.length_nil, Nat.reduceAdd] <;> rfl)))
 | (refine st_nil ?_)
 | (apply st_a; (case hc => rfl); (case he => (simp only [go_sem, *] <;> rfl)); (case hu => (simp only [updL_nil, updL_cons] <;> rfl)); (case hp => first | trivial))
 | (apply st_m; (case hc => rfl); (case hg => (simp only [go_sem, *] <;> rfl)); (case he => (intro hQz; (try simp only [wantB_t, wantB_f, Bool.and_eq_true, Bool.not_eq_true', Bool.not_true, Bool.not_false, and_true, true_and] at hQz); simp only [go_sem, *] <;> rfl)); (case hp => (intro hQz; (try simp only [wantB_t, wantB_f, Bool.and_eq_true, Bool.not_eq_true', Bool.or_eq_false_iff, decide_eq_true_eq, decide_eq_false_iff_not, beq_iff_eq, beq_eq_false_iff_ne, bne_iff_ne, bne_eq_false_iff_eq, Int.not_lt, Int.not_le, Int.ofNat_lt, Int.ofNat_le] at hQz); first | trivial)))
 | (refine Awp.ret ?_; try simp only [go_sem, *]))
  all_goals repeat' (first | exact Lower.bool (by first | rfl | (simp only [true_and, Bool.true_and, Bool.false_and, Bool.and_true, Bool.and_false, Bool.true_or, Bool.false_or, reduceIte, Bool.false_eq_true, *]; done) | (simp only [true_and, reduceIte, Bool.false_eq_true, *] <;> rfl) | (simp [true_and]; done) | (simp_all [true_and]; done) | omega))
theorem valid_ok (l : List Pt) (k t : Int) (hl : l.length < 1000000) : Pure Tryz.prog 15 [.sl (pts l), .v (.int .i64 k), .v (.int .i64 t)] (.v (.bool (validB l k t))) := by
  have h := containsPt2_ok l 39 [.v (.int .i64 k)] [.v (.int .i64 t)] (hasP k t) hl (fun i hi => valid1_ok k t _)
  unfold validB
  refine fn_pure Tryz.F15 (Nat.le_of_ble_eq_true rfl) ?_; unfold Tryz.ac15
  repeat' (first
 | (apply Awp.sreg; (case hn => (simp only [List.length_cons, List.length_nil, Nat.reduceAdd] <;> rfl)))
 | (refine st_nil ?_)
 | (apply st_a; (case hc => rfl); (case he => (simp only [go_sem, *] <;> rfl)); (case hu => (simp only [updL_nil, updL_cons] <;> rfl)); (case hp => first | trivial))
 | (apply st_cd; (case hc => (simp only [go_sem, *] <;> rfl)); (case hl => (simp only [go_sem, *] <;> rfl)); (case hn => (simp only [go_sem, *] <;> rfl)); (case hp => first | exact h | (have hXz := h; simp only [go_sem, *] at hXz; exact hXz)); (case hd => first | exact .v _ | exact .any | exact .nils | (repeat' (first | exact Dry.v _ | exact Dry.any | exact Dry.nils | exact Dry.slE | refine Dry.agg ?_ | refine Dry.tup ?_ | (refine List.forall_mem_cons.2 (And.intro ?_ ?_)) | (intro cQ hQ; cases hQ; done)))); (case hm => first | decide | (simp; done)))
 | (refine Awp.ret ?_; try simp only [go_sem, *]))
  all_goals repeat' (first | exact Lower.bool (by first | rfl | (simp only [true_and, Bool.true_and, Bool.false_and, Bool.and_true, Bool.and_false, Bool.true_or, Bool.false_or, reduceIte, Bool.false_eq_true, *]; done) | (simp only [true_and, reduceIte, Bool.false_eq_true, *] <;> rfl) | (simp [true_and]; done) | (simp_all [true_and]; done) | omega))
def isT (s : ByteArray) (q : Te) : Bool := q.id.toList == s.toList
def findE (l : List Te) (s : ByteArray) : Int := idxF (isT s) l
theorem find1_ok (s : ByteArray) (q : Te) : Pure Tryz.prog 60 [q.av, .rp [.v (.string s)]] (.v (.bool (isT s q))) := by
  unfold isT
  refine fn_pure Tryz.F60 (Nat.le_of_ble_eq_true rfl) ?_; unfold Tryz.ac60
  repeat' (first
 | (apply Awp.sreg; (case hn => (simp only [List.length_cons, List.length_nil, Nat.reduceAdd] <;> rfl)))
 | (refine st_nil ?_)
 | (apply st_a; (case hc => rfl); (case he => (simp only [go_sem, *] <;> rfl)); (case hu => (simp only [updL_nil, updL_cons] <;> rfl)); (case hp => first | trivial))
 | (refine Awp.ret ?_; try simp only [go_sem, *]))
  all_goals repeat' (first | exact Lower.bool (by first | rfl | (simp only [true_and, Bool.true_and, Bool.false_and, Bool.and_true, Bool.and_false, Bool.true_or, Bool.false_or, reduceIte, Bool.false_eq_true, *]; done) | (simp only [true_and, reduceIte, Bool.false_eq_true, *] <;> rfl) | (simp [true_and]; done) | (simp_all [true_and]; done) | omega))
theorem find_ok (l : List Te) (s : ByteArray) (hl : l.length < 1000000) : Pure Tryz.prog 42 [.sl (tes l), .v (.string s)] (.v (.int .i64 (findE l s))) := by
  have h := indexTe1_ok l 60 [.v (.string s)] (isT s) hl (fun i hi => find1_ok s _)
  unfold findE
  refine fn_pure Tryz.F42 (Nat.le_of_ble_eq_true rfl) ?_; unfold Tryz.ac42
  repeat' (first
 | (apply Awp.sreg; (case hn => (simp only [List.length_cons, List.length_nil, Nat.reduceAdd] <;> rfl)))
 | (refine st_nil ?_)
 | (apply st_a; (case hc => rfl); (case he => (simp only [go_sem, *] <;> rfl)); (case hu => (simp only [updL_nil, updL_cons] <;> rfl)); (case hp => first | trivial))
 | (apply st_cd; (case hc => (simp only [go_sem, *] <;> rfl)); (case hl => (simp only [go_sem, *] <;> rfl)); (case hn => (simp only [go_sem, *] <;> rfl)); (case hp => first | exact h | (have hXz := h; simp only [go_sem, *] at hXz; exact hXz)); (case hd => first | exact .v _ | exact .any | exact .nils | (repeat' (first | exact Dry.v _ | exact Dry.any | exact Dry.nils | exact Dry.slE | refine Dry.agg ?_ | refine Dry.tup ?_ | (refine List.forall_mem_cons.2 (And.intro ?_ ?_)) | (intro cQ hQ; cases hQ; done)))); (case hm => first | decide | (simp; done)))
 | (refine Awp.ret ?_; try simp only [go_sem, *]))
  all_goals repeat' (first | exact Lower.int (by first | rfl | (simp only [true_and, Bool.true_and, Bool.false_and, Bool.and_true, Bool.and_false, Bool.true_or, Bool.false_or, reduceIte, Bool.false_eq_true, *]; done) | (simp only [true_and, reduceIte, Bool.false_eq_true, *] <;> rfl) | (simp [true_and]; done) | (simp_all [true_and]; done) | omega))
theorem rfind_ok (l : List Te) (s : ByteArray) (hl : l.length < 1000000) : Pure Tryz.prog 45 [.sl (tes l), .v (.string s)] (.v (.int .i64 (findE l s))) := by
  unfold findE
  refine fn_pure Tryz.F45 (Nat.le_of_ble_eq_true rfl) ?_; unfold Tryz.ac45
  repeat' (first
 | (apply Awp.sreg; (case hn => (simp only [List.length_cons, List.length_nil, Nat.reduceAdd] <;> rfl)))
 | (refine st_nil ?_)
 | (apply st_a; (case hc => rfl); (case he => (simp only [go_sem, *] <;> rfl)); (case hu => (simp only [updL_nil, updL_cons] <;> rfl)); (case hp => first | trivial))
 | refine Awp.block ?_
 | refine Awp.seq ?_)
  refine Awp.loop (fun i : Nat => i ≤ l.length ∧ ∀ j, j < i → isT s (l.getD j zeroTe) = false) 40 (fun i => mkS [(0, .sl (tes l)), (1, .v (.string s)), (5, .v (.int .i64 i))] []) (fun i => l.length - i) 0 (by simp) ?_ ?_
  · (apply Ghost.mk [] []; (case hdead => rfl); (case hinj => rfl); (case hV => (simp only [go_sem, *]) <;> (repeat' (first | exact View.int (by first | rfl | omega | (simp; done) | (rw [wrap_i64] <;> (try simp only [Int.natCast_add]) <;> omega) | (simp [*]; done))))); (case hB => (simp only [go_sem, *]) <;> (repeat' (first | skip; done))))
  · intro i ⟨hi, hj⟩
    by_cases hlt : i < l.length
    · have hlt' : (i : Int) < l.length := by omega
      have hat := tes_at l i hlt
      have hz : ((l.getD i zeroTe).cells).length = 3 := rfl
      cases hv : isT s (l.getD i zeroTe)
      · have hnx := ltSucc (P := fun j => isT s (l.getD j zeroTe) = false) hj hv
        clear hj
        unfold isT at hv
        repeat' (first
 | (apply Awp.sreg; (case hn => (simp only [List.length_cons, List.length_nil, Nat.reduceAdd] <;> rfl)))
 | (refine st_nil ?_)
 | (apply st_a; (case hc => rfl); (case he => (simp only [go_sem, *] <;> rfl)); (case hu => (simp only [updL_nil, updL_cons] <;> rfl)); (case hp => first | trivial | omega))
 | (apply Awp.reg; (case hn => (simp only [List.length_cons, List.length_nil, Nat.reduceAdd] <;> rfl)))
 | (refine Awp.skip ?_; try simp only [go_sem, *])
 | refine Awp.block ?_
 | (apply Awp.cond; (case hc => (simp only [go_sem, *] <;> rfl)); all_goals (intro hg; (try simp only [Bool.not_true, Bool.not_false, reduceCtorEq] at hg)))
 | refine Awp.seq ?_)
        all_goals (refine ⟨i + 1, ⟨by omega, hnx⟩, by omega, ?_⟩; (apply Ghost.mk [] []; (case hdead => rfl); (case hinj => rfl); (case hV => (simp only [go_sem, *]) <;> (repeat' (first | exact View.int (by first | rfl | omega | (simp; done) | (rw [wrap_i64] <;> (try simp only [Int.natCast_add]) <;> omega) | (simp [*]; done))))); (case hB => (simp only [go_sem, *]) <;> (repeat' (first | skip; done)))))
      · have hf := idxF_in (p := isT s) hlt hv hj
        clear hj
        unfold isT at hv
        repeat' (first
 | (apply Awp.sreg; (case hn => (simp only [List.length_cons, List.length_nil, Nat.reduceAdd] <;> rfl)))
 | (refine st_nil ?_)
 | (apply st_a; (case hc => rfl); (case he => (simp only [go_sem, *] <;> rfl)); (case hu => (simp only [updL_nil, updL_cons] <;> rfl)); (case hp => first | trivial | omega))
 | (refine Awp.ret ?_; try simp only [go_sem, *])
 | (refine Awp.skip ?_; try simp only [go_sem, *])
 | refine Awp.block ?_
 | (apply Awp.cond; (case hc => (simp only [go_sem, *] <;> rfl)); all_goals (intro hg; (try simp only [Bool.not_true, Bool.not_false, reduceCtorEq] at hg)))
 | refine Awp.seq ?_)
        all_goals repeat' (first | exact Lower.int (by first | rfl | (simp only [true_and, Bool.true_and, Bool.false_and, Bool.and_true, Bool.and_false, Bool.true_or, Bool.false_or, reduceIte, Bool.false_eq_true, *]; done) | (simp only [true_and, reduceIte, Bool.false_eq_true, *] <;> rfl) | (simp [true_and]; done) | (simp_all [true_and]; done) | omega))
    · have hlt' : ¬ (i : Int) < l.length := by omega
      have hf := idxF_out (p := isT s) (Nat.le_of_not_lt hlt) hj
      clear hj
      repeat' (first
 | (apply Awp.sreg; (case hn => (simp only [List.length_cons, List.length_nil, Nat.reduceAdd] <;> rfl)))
 | (refine st_nil ?_)
 | (apply st_a; (case hc => rfl); (case he => (simp only [go_sem, *] <;> rfl)); (case hu => (simp only [updL_nil, updL_cons] <;> rfl)); (case hp => first | trivial))
 | (refine Awp.ret ?_; try simp only [go_sem, *])
 | (refine Awp.exit ?_; try simp only [go_sem, *])
 | (apply Awp.cond; (case hc => (simp only [go_sem, *] <;> rfl)); all_goals (intro hg; (try simp only [Bool.not_true, Bool.not_false, reduceCtorEq] at hg)))
 | refine Awp.seq ?_)
      all_goals repeat' (first | exact Lower.int (by first | rfl | (simp only [true_and, Bool.true_and, Bool.false_and, Bool.and_true, Bool.and_false, Bool.true_or, Bool.false_or, reduceIte, Bool.false_eq_true, *]; done) | (simp only [true_and, reduceIte, Bool.false_eq_true, *] <;> rfl) | (simp [true_and]; done) | (simp_all [true_and]; done) | omega))
def leS (a b : ByteArray) : Bool := strLess a b || a.toList == b.toList
def badA (l : List ByteArray) (i : Nat) : Bool := !strLess (l.getD i zeroB) (l.getD (i + 1) zeroB)
def ascB (l : List ByteArray) : Bool := !(List.range (l.length - 1)).any (badA l)
theorem ascB_f {l : List ByteArray} {i : Nat} (hi : i + 1 < l.length) (h : badA l i = true) : ascB l = false := by
  unfold ascB
  rw [Bool.not_eq_false', List.any_eq_true]
  exact ⟨i, List.mem_range.2 (by omega), h⟩
theorem ascB_t {l : List ByteArray} {n : Nat} (hn : l.length ≤ n + 1) (h : ∀ j, j < n → badA l j = false) : ascB l = true := by
  unfold ascB
  rw [Bool.not_eq_true', List.any_eq_false]
  intro i hi
  rw [h i (by have := List.mem_range.1 hi; omega)]
  simp
theorem asc_ok (l : List ByteArray) (hl : l.length < 1000000) : Pure Tryz.prog 47 [.sl (strs l)] (.v (.bool (ascB l))) := by
  have hln : (strs l).length = l.length := by simp [strs]
  refine fn_pure Tryz.F47 (Nat.le_of_ble_eq_true rfl) ?_; unfold Tryz.ac47
  repeat' (first
 | (apply Awp.sreg; (case hn => (simp only [List.length_cons, List.length_nil, Nat.reduceAdd] <;> rfl)))
 | (refine st_nil ?_)
 | (apply st_a; (case hc => rfl); (case he => (simp only [go_sem, *] <;> rfl)); (case hu => (simp only [updL_nil, updL_cons] <;> rfl)); (case hp => first | trivial))
 | refine Awp.block ?_
 | refine Awp.seq ?_)
  refine Awp.loop (fun n : Nat => n ≤ l.length ∧ ∀ j, j < n → badA l j = false) 40 (fun n => mkS [(0, .sl (strs l)), (3, .v (.int .i64 ((n + 1 : Nat) : Int)))] []) (fun n => l.length - n) 0 (by simp) ?_ ?_
  · clear hln
    (apply Ghost.mk [] []; (case hdead => rfl); (case hinj => rfl); (case hV => (simp only [go_sem, *]) <;> (repeat' (first | exact View.int (by first | rfl | omega | (simp; done) | (rw [wrap_i64] <;> (try simp only [Int.natCast_add]) <;> omega) | (simp [*]; done))))); (case hB => (simp only [go_sem, *]) <;> (repeat' (first | skip; done))))
  · intro n ⟨hn, hj⟩
    by_cases hlt : n + 1 < l.length
    · have hlt' : ((n + 1 : Nat) : Int) < l.length := by omega
      have hlt2 : (n : Int) < l.length := by omega
      have hw : IntKind.i64.wrap (((n + 1 : Nat) : Int) - 1) = (n : Int) := by rw [wrap_i64 (by omega) (by omega)]; omega
      have hw2 : IntKind.i64.wrap (((n + 1 : Nat) : Int) + 1) = ((n + 1 + 1 : Nat) : Int) := by rw [wrap_i64 (by omega) (by omega)]; omega
      have hat := strs_at0 l n (by omega)
      have hat2 := strs_at0 l (n + 1) hlt
      have h0 : (0 : Int) ≤ ((n + 1 : Nat) : Int) := by omega
      have h0' : (0 : Int) ≤ (n : Int) := by omega
      have hn1 : n < l.length := by omega
      have hb : badA l n = !strLess (l.getD n zeroB) (l.getD (n + 1) zeroB) := rfl
      cases hB : badA l n
      · have hnx := ltSucc hj hB
        rw [hb] at hB
        clear hj hb
        have hB : strLess (l.getD n zeroB) (l.getD (n + 1) zeroB) = true := by simpa using hB
        generalize l.getD (n + 1) zeroB = u at *
        generalize l.getD n zeroB = v at *
        generalize hm : (n + 1 : Nat) = m at *
        repeat' (first
 | (apply Awp.sreg; (case hn => (simp only [List.length_cons, List.length_nil, Nat.reduceAdd] <;> rfl)))
 | (apply Awp.sdraw; (case hn => (simp only [List.length_cons, List.length_nil, Nat.reduceAdd] <;> rfl)))
 | (refine st_nil ?_)
 | (apply st_a; (case hc => rfl); (case he => (simp only [go_sem, *] <;> rfl)); (case hu => (simp only [updL_nil, updL_cons] <;> rfl)); (case hp => first | trivial))
 | (apply Awp.reg; (case hn => (simp only [List.length_cons, List.length_nil, Nat.reduceAdd] <;> rfl)))
 | (refine Awp.skip ?_; try simp only [go_sem, *])
 | refine Awp.block ?_
 | (apply Awp.cond; (case hc => (simp only [go_sem, *] <;> rfl)); all_goals (intro hg; (try simp only [Bool.not_true, Bool.not_false, reduceCtorEq] at hg)))
 | refine Awp.seq ?_
 | (apply sl_a; (case hc => rfl); (case he => (simp only [go_sem, *] <;> rfl)); (case hu => (simp only [updL_nil, updL_cons] <;> rfl)); (case hl => (simp only [List.map_cons, List.map_nil] <;> rfl)); (case hp => first | trivial))
 | (refine sl_nil (And.intro (by first | exact drawOk_of (by decide +kernel) | (simp only [List.map_cons, List.map_nil]; exact drawOk_of (by decide +kernel)) | decide) ?_)))
        all_goals (try simp only [loopQ_normal])
        all_goals (refine ⟨n + 1, ⟨by omega, by first | exact hnx | (rw [hm]; exact hnx)⟩, by omega, ?_⟩; rw [hm]; clear hnx; (apply Ghost.mk [] []; (case hdead => rfl); (case hinj => rfl); (case hV => (simp only [go_sem, *]) <;> (repeat' (first | skip; done))); (case hB => (simp only [go_sem, *]) <;> (repeat' (first | skip; done)))))
      · have hf := ascB_f hlt hB
        rw [hb] at hB
        clear hj hb
        have hB : strLess (l.getD n zeroB) (l.getD (n + 1) zeroB) = false := by simpa using hB
        generalize l.getD (n + 1) zeroB = u at *
        generalize l.getD n zeroB = v at *
        generalize hm : (n + 1 : Nat) = m at *
        repeat' (first
 | (apply Awp.sreg; (case hn => (simp only [List.length_cons, List.length_nil, Nat.reduceAdd] <;> rfl)))
 | (apply Awp.sdraw; (case hn => (simp only [List.length_cons, List.length_nil, Nat.reduceAdd] <;> rfl)))
 | (refine st_nil ?_)
 | (apply st_a; (case hc => rfl); (case he => (simp only [go_sem, *] <;> rfl)); (case hu => (simp only [updL_nil, updL_cons] <;> rfl)); (case hp => first | trivial))
 | (refine Awp.ret ?_; try simp only [go_sem, *])
 | (refine Awp.skip ?_; try simp only [go_sem, *])
 | refine Awp.block ?_
 | (apply Awp.cond; (case hc => (simp only [go_sem, *] <;> rfl)); all_goals (intro hg; (try simp only [Bool.not_true, Bool.not_false, reduceCtorEq] at hg)))
 | refine Awp.seq ?_
 | (apply sl_a; (case hc => rfl); (case he => (simp only [go_sem, *] <;> rfl)); (case hu => (simp only [updL_nil, updL_cons] <;> rfl)); (case hl => (simp only [List.map_cons, List.map_nil] <;> rfl)); (case hp => first | trivial))
 | (refine sl_nil (And.intro (by first | exact drawOk_of (by decide +kernel) | (simp only [List.map_cons, List.map_nil]; exact drawOk_of (by decide +kernel)) | decide) ?_)))
        all_goals repeat' (first | exact Lower.bool (by first | rfl | (simp only [true_and, Bool.true_and, Bool.false_and, Bool.and_true, Bool.and_false, Bool.true_or, Bool.false_or, reduceIte, Bool.false_eq_true, *]; done) | (simp only [true_and, reduceIte, Bool.false_eq_true, *] <;> rfl) | (simp [true_and]; done) | (simp_all [true_and]; done) | omega))
    · have hlt' : ¬ ((n + 1 : Nat) : Int) < l.length := by omega
      have hf := ascB_t (by omega) hj
      clear hj
      generalize (n + 1 : Nat) = m at *
      repeat' (first
 | (apply Awp.sreg; (case hn => (simp only [List.length_cons, List.length_nil, Nat.reduceAdd] <;> rfl)))
 | (refine st_nil ?_)
 | (apply st_a; (case hc => rfl); (case he => (simp only [go_sem, *] <;> rfl)); (case hu => (simp only [updL_nil, updL_cons] <;> rfl)); (case hp => first | trivial))
 | (refine Awp.ret ?_; try simp only [go_sem, *])
 | (refine Awp.exit ?_; try simp only [go_sem, *])
 | (apply Awp.cond; (case hc => (simp only [go_sem, *] <;> rfl)); all_goals (intro hg; (try simp only [Bool.not_true, Bool.not_false, reduceCtorEq] at hg)))
 | refine Awp.seq ?_)
      all_goals repeat' (first | exact Lower.bool (by first | rfl | (simp only [true_and, Bool.true_and, Bool.false_and, Bool.and_true, Bool.and_false, Bool.true_or, Bool.false_or, reduceIte, Bool.false_eq_true, *]; done) | (simp only [true_and, reduceIte, Bool.false_eq_true, *] <;> rfl) | (simp [true_and]; done) | (simp_all [true_and]; done) | omega))
def leftE (l : List Te) : List ByteArray := (l.filter fun q => !q.dn).map (·.id)
theorem left_step (l : List Te) (i : Nat) (h : i < l.length) : leftE (l.take (i + 1)) = leftE (l.take i) ++ (if (l.getD i zeroTe).dn = true then [] else [(l.getD i zeroTe).id]) := by
  rw [take_snoc l zeroTe i h]
  unfold leftE
  rw [List.filter_append, List.map_append]
  congr 1
  cases hp : (l.getD i zeroTe).dn
  · rw [List.filter_cons_of_pos (by rw [hp]; rfl)]; rfl
  · rw [List.filter_cons_of_neg (by rw [hp]; simp)]; rfl
theorem leftE_len (l : List Te) : (leftE l).length ≤ l.length := by unfold leftE; rw [List.length_map]; exact List.length_filter_le _ _
theorem left_ok (l : List Te) (hl : l.length < 100000) : PureOwn Tryz.prog 27 [.sl (tes l)] (strs (leftE l)) 1 9 := by
  refine fn_own Tryz.F27 (Nat.le_of_ble_eq_true rfl) ?_; unfold Tryz.ac27
  repeat' (first
 | (apply Awp.sreg; (case hn => (simp only [List.length_cons, List.length_nil, Nat.reduceAdd] <;> rfl)))
 | (refine st_nil ?_)
 | (apply st_a; (case hc => rfl); (case he => (simp only [go_sem, *] <;> rfl)); (case hu => (simp only [updL_nil, updL_cons] <;> rfl)); (case hp => first | trivial))
 | refine Awp.block ?_
 | refine Awp.seq ?_)
  refine Awp.loop (fun i : Nat => i ≤ l.length) 60 (fun i => mkS [(2, .own 1), (5, .sl (tes l)), (6, .v (.int .i64 l.length)), (7, .v (.int .i64 i))] [(1, .row (strs (leftE (l.take i))) 1 9)]) (fun i => l.length - i) 0 (by omega) ?_ ?_
  · refine Ghost.trans (Ghost.name 2 1 9 rfl (by decide)) ?_
    have e1 : strs (leftE (l.take 0)) = [] := rfl
    rw [e1]
    (apply Ghost.mk [(1, 4)] []; (case hdead => rfl); (case hinj => rfl); (case hV => (simp only [go_sem, *]) <;> (repeat' (first | refine And.intro ?_ ?_ | exact View.int (by first | rfl | omega | (simp; done) | (rw [wrap_i64] <;> (try simp only [Int.natCast_add]) <;> omega) | (simp [*]; done)) | exact .own rfl (by decide)))); (case hB => (simp only [go_sem, *]) <;> (repeat' (first | exact ⟨_, rfl, .rowE (by first | rfl | omega | (simp; done) | (rw [wrap_i64] <;> (try simp only [Int.natCast_add]) <;> omega) | (simp [*]; done))⟩))))
  · intro i hi
    by_cases hlt : i < l.length
    · have hlt' : (i : Int) < l.length := by omega
      have hat := tes_at l i hlt
      have hz : ((l.getD i zeroTe).cells).length = 3 := rfl
      have hst := left_step l i hlt
      have hln := leftE_len (l.take i)
      have hls : (strs (leftE (l.take i))).length = (leftE (l.take i)).length := by simp [strs]
      have htl : (l.take i).length = i := List.length_take_of_le hi
      generalize l.getD i zeroTe = x at *
      generalize leftE (l.take i) = O at *
      cases hd : x.dn
      · rw [hd] at hst
        simp only [Bool.false_eq_true, if_false] at hst
        have esn := strs_snoc0 O x.id
        repeat' (first
 | (apply Awp.sreg; (case hn => (simp only [List.length_cons, List.length_nil, Nat.reduceAdd] <;> rfl)))
 | (refine st_nil ?_)
 | (apply st_a; (case hc => rfl); (case he => (simp only [go_sem, *] <;> rfl)); (case hu => (simp only [updL_nil, updL_cons] <;> rfl)); (case hp => first | trivial | omega | (simp; done) | (simp; omega)))
 | (apply Awp.reg; (case hn => (simp only [List.length_cons, List.length_nil, Nat.reduceAdd] <;> rfl)))
 | (refine Awp.skip ?_; try simp only [go_sem, *])
 | refine Awp.block ?_
 | (apply Awp.cond; (case hc => (simp only [go_sem, *] <;> rfl)); all_goals (intro hg; (try simp only [Bool.not_true, Bool.not_false, reduceCtorEq] at hg)))
 | refine Awp.seq ?_)
        refine ⟨i + 1, by omega, by omega, ?_⟩
        rw [hst]
        clear hst
        (apply Ghost.mk [(1, 72)] []; (case hdead => rfl); (case hinj => rfl); (case hV => (simp only [go_sem, *]) <;> (repeat' (first | refine And.intro ?_ ?_ | exact View.int (by first | rfl | exact esn | omega | (simp; done) | (rw [wrap_i64] <;> (try simp only [Int.natCast_add]) <;> omega) | (simp [*]; done)) | exact .own rfl (by decide)))); (case hB => (simp only [go_sem, *]) <;> (repeat' (first | exact ⟨_, rfl, .rowE (by first | rfl | exact esn | omega | (simp; done) | (rw [wrap_i64] <;> (try simp only [Int.natCast_add]) <;> omega) | (simp [*]; done))⟩))))
      · rw [hd] at hst
        simp only [if_true, List.append_nil] at hst
        repeat' (first
 | (apply Awp.sreg; (case hn => (simp only [List.length_cons, List.length_nil, Nat.reduceAdd] <;> rfl)))
 | (refine st_nil ?_)
 | (apply st_a; (case hc => rfl); (case he => (simp only [go_sem, *] <;> rfl)); (case hu => (simp only [updL_nil, updL_cons] <;> rfl)); (case hp => first | trivial | omega))
 | (apply Awp.reg; (case hn => (simp only [List.length_cons, List.length_nil, Nat.reduceAdd] <;> rfl)))
 | (refine Awp.skip ?_; try simp only [go_sem, *])
 | refine Awp.block ?_
 | (apply Awp.cond; (case hc => (simp only [go_sem, *] <;> rfl)); all_goals (intro hg; (try simp only [Bool.not_true, Bool.not_false, reduceCtorEq] at hg)))
 | refine Awp.seq ?_)
        refine ⟨i + 1, by omega, by omega, ?_⟩
        rw [hst]
        clear hst
        (apply Ghost.mk [] []; (case hdead => rfl); (case hinj => rfl); (case hV => (simp only [go_sem, *]) <;> (repeat' (first | refine And.intro ?_ ?_ | exact View.int (by first | rfl | omega | (simp; done) | (rw [wrap_i64] <;> (try simp only [Int.natCast_add]) <;> omega) | (simp [*]; done)) | exact .own rfl (by decide)))); (case hB => (simp only [go_sem, *]) <;> (repeat' (first | exact ⟨_, rfl, .rowE (by first | rfl | omega | (simp; done) | (rw [wrap_i64] <;> (try simp only [Int.natCast_add]) <;> omega) | (simp [*]; done))⟩))))
    · have hlt' : ¬ (i : Int) < l.length := by omega
      have e1 : l.take i = l := List.take_of_length_le (by omega)
      rw [e1]
      repeat' (first
 | (apply Awp.sreg; (case hn => (simp only [List.length_cons, List.length_nil, Nat.reduceAdd] <;> rfl)))
 | (refine st_nil ?_)
 | (apply st_a; (case hc => rfl); (case he => (simp only [go_sem, *] <;> rfl)); (case hu => (simp only [updL_nil, updL_cons] <;> rfl)); (case hp => first | trivial))
 | (refine Awp.ret ?_; try simp only [go_sem, *])
 | (refine Awp.exit ?_; try simp only [go_sem, *])
 | (apply Awp.cond; (case hc => (simp only [go_sem, *] <;> rfl)); all_goals (intro hg; (try simp only [Bool.not_true, Bool.not_false, reduceCtorEq] at hg)))
 | refine Awp.seq ?_)
      all_goals exact ⟨_, rfl, rfl⟩
theorem rleft_ok (l : List Te) (hl : l.length < 100000) : PureOwn Tryz.prog 28 [.sl (tes l)] (strs (leftE l)) 1 9 := by
  refine fn_own Tryz.F28 (Nat.le_of_ble_eq_true rfl) ?_; unfold Tryz.ac28
  repeat' (first
 | (apply Awp.sreg; (case hn => (simp only [List.length_cons, List.length_nil, Nat.reduceAdd] <;> rfl)))
 | (refine st_nil ?_)
 | (apply st_a; (case hc => rfl); (case he => (simp only [go_sem, *] <;> rfl)); (case hu => (simp only [updL_nil, updL_cons] <;> rfl)); (case hp => first | trivial))
 | refine Awp.block ?_
 | refine Awp.seq ?_)
  refine Awp.loop (fun i : Nat => i ≤ l.length) 60 (fun i => mkS [(0, .sl (tes l)), (3, .own 1), (4, .v (.int .i64 i))] [(1, .row (strs (leftE (l.take i))) 1 9)]) (fun i => l.length - i) 0 (by omega) ?_ ?_
  · refine Ghost.trans (Ghost.name 3 1 9 rfl (by decide)) ?_
    have e1 : strs (leftE (l.take 0)) = [] := rfl
    rw [e1]
    (apply Ghost.mk [(1, 3)] []; (case hdead => rfl); (case hinj => rfl); (case hV => (simp only [go_sem, *]) <;> (repeat' (first | refine And.intro ?_ ?_ | exact View.int (by first | rfl | omega | (simp; done) | (rw [wrap_i64] <;> (try simp only [Int.natCast_add]) <;> omega) | (simp [*]; done)) | exact .own rfl (by decide)))); (case hB => (simp only [go_sem, *]) <;> (repeat' (first | exact ⟨_, rfl, .rowE (by first | rfl | omega | (simp; done) | (rw [wrap_i64] <;> (try simp only [Int.natCast_add]) <;> omega) | (simp [*]; done))⟩))))
  · intro i hi
    by_cases hlt : i < l.length
    · have hlt' : (i : Int) < l.length := by omega
      have hat := tes_at l i hlt
      have hz : ((l.getD i zeroTe).cells).length = 3 := rfl
      have hst := left_step l i hlt
      have hln := leftE_len (l.take i)
      have hls : (strs (leftE (l.take i))).length = (leftE (l.take i)).length := by simp [strs]
      have htl : (l.take i).length = i := List.length_take_of_le hi
      generalize l.getD i zeroTe = x at *
      generalize leftE (l.take i) = O at *
      cases hd : x.dn
      · rw [hd] at hst
        simp only [Bool.false_eq_true, if_false] at hst
        have esn := strs_snoc0 O x.id
        repeat' (first
 | (apply Awp.sreg; (case hn => (simp only [List.length_cons, List.length_nil, Nat.reduceAdd] <;> rfl)))
 | (refine st_nil ?_)
 | (apply st_a; (case hc => rfl); (case he => (simp only [go_sem, *] <;> rfl)); (case hu => (simp only [updL_nil, updL_cons] <;> rfl)); (case hp => first | trivial | omega | (simp; done) | (simp; omega)))
 | (apply Awp.reg; (case hn => (simp only [List.length_cons, List.length_nil, Nat.reduceAdd] <;> rfl)))
 | (refine Awp.skip ?_; try simp only [go_sem, *])
 | refine Awp.block ?_
 | (apply Awp.cond; (case hc => (simp only [go_sem, *] <;> rfl)); all_goals (intro hg; (try simp only [Bool.not_true, Bool.not_false, reduceCtorEq] at hg)))
 | refine Awp.seq ?_)
        refine ⟨i + 1, by omega, by omega, ?_⟩
        rw [hst]
        clear hst
        (apply Ghost.mk [(1, 77)] []; (case hdead => rfl); (case hinj => rfl); (case hV => (simp only [go_sem, *]) <;> (repeat' (first | refine And.intro ?_ ?_ | exact View.int (by first | rfl | exact esn | omega | (simp; done) | (rw [wrap_i64] <;> (try simp only [Int.natCast_add]) <;> omega) | (simp [*]; done)) | exact .own rfl (by decide)))); (case hB => (simp only [go_sem, *]) <;> (repeat' (first | exact ⟨_, rfl, .rowE (by first | rfl | exact esn | omega | (simp; done) | (rw [wrap_i64] <;> (try simp only [Int.natCast_add]) <;> omega) | (simp [*]; done))⟩))))
      · rw [hd] at hst
        simp only [if_true, List.append_nil] at hst
        repeat' (first
 | (apply Awp.sreg; (case hn => (simp only [List.length_cons, List.length_nil, Nat.reduceAdd] <;> rfl)))
 | (refine st_nil ?_)
 | (apply st_a; (case hc => rfl); (case he => (simp only [go_sem, *] <;> rfl)); (case hu => (simp only [updL_nil, updL_cons] <;> rfl)); (case hp => first | trivial | omega))
 | (apply Awp.reg; (case hn => (simp only [List.length_cons, List.length_nil, Nat.reduceAdd] <;> rfl)))
 | (refine Awp.skip ?_; try simp only [go_sem, *])
 | refine Awp.block ?_
 | (apply Awp.cond; (case hc => (simp only [go_sem, *] <;> rfl)); all_goals (intro hg; (try simp only [Bool.not_true, Bool.not_false, reduceCtorEq] at hg)))
 | refine Awp.seq ?_)
        refine ⟨i + 1, by omega, by omega, ?_⟩
        rw [hst]
        clear hst
        (apply Ghost.mk [] []; (case hdead => rfl); (case hinj => rfl); (case hV => (simp only [go_sem, *]) <;> (repeat' (first | refine And.intro ?_ ?_ | exact View.int (by first | rfl | omega | (simp; done) | (rw [wrap_i64] <;> (try simp only [Int.natCast_add]) <;> omega) | (simp [*]; done)) | exact .own rfl (by decide)))); (case hB => (simp only [go_sem, *]) <;> (repeat' (first | exact ⟨_, rfl, .rowE (by first | rfl | omega | (simp; done) | (rw [wrap_i64] <;> (try simp only [Int.natCast_add]) <;> omega) | (simp [*]; done))⟩))))
    · have hlt' : ¬ (i : Int) < l.length := by omega
      have e1 : l.take i = l := List.take_of_length_le (by omega)
      rw [e1]
      repeat' (first
 | (apply Awp.sreg; (case hn => (simp only [List.length_cons, List.length_nil, Nat.reduceAdd] <;> rfl)))
 | (refine st_nil ?_)
 | (apply st_a; (case hc => rfl); (case he => (simp only [go_sem, *] <;> rfl)); (case hu => (simp only [updL_nil, updL_cons] <;> rfl)); (case hp => first | trivial))
 | (refine Awp.ret ?_; try simp only [go_sem, *])
 | (refine Awp.exit ?_; try simp only [go_sem, *])
 | (apply Awp.cond; (case hc => (simp only [go_sem, *] <;> rfl)); all_goals (intro hg; (try simp only [Bool.not_true, Bool.not_false, reduceCtorEq] at hg)))
 | refine Awp.seq ?_)
      all_goals exact ⟨_, rfl, rfl⟩
end Go.Proofs
end
section
set_option linter.unusedVariables false
set_option linter.unusedSimpArgs false
namespace Go.Proofs
open Go Go.Ab
set_option maxHeartbeats 8000000
set_option maxRecDepth 100000
attribute [local irreducible] Awp aops aopsL Go.Ab.Pure PureOwn

theorem clonePt_ok (l : List Pt) (hl : l.length < 1000000) : PureOwn Tryz.prog 37 [.sl (pts l)] (pts l) 4 26 :=
  clone_of Tryz.clonePt ⟨_, Tryz.func37, by kernel_rfl, by kernel_rfl⟩ _ _ 4 40 (show Tryz.prog.info? (Tryz.clonePt_ren.t 23) = some _ from rfl) rfl rfl rfl rfl (by omega) (fun w => Tryz.sizeOf26 w) (pts l) (pts_one l) (by rw [pts_len]; omega)
def sameId (s : ByteArray) (q : Pt) : Bool := q.id.toList == s.toList
def gtId (s : ByteArray) (q : Pt) : Bool := !(strLess q.id s || q.id.toList == s.toList)
def badK (k : Int) : Bool := decide (k < 1) || decide (4 < k)
def badT (a b now : Int) : Bool := ((decide (a < 0) || decide (b ≤ a)) || decide (1048576 < b)) || decide (b ≤ now)
def posP (s : ByteArray) (l : List Pt) : Nat := if idxF (gtId s) l < 0 then l.length else (idxF (gtId s) l).toNat
def addE (l : List Pt) (p : Pt) (now : Int) : List Pt × Int :=
  if !idB p.id then ([], 6) else if badK p.k then ([], 10) else if badT p.a p.b now then ([], 15) else if l.any (sameId p.id) then ([], 7) else if 64 ≤ l.length then ([], 12) else (insP l (posP p.id l) p, 0)
theorem sameId_ok (p q : Pt) : Pure Tryz.prog 33 [q.av, .rp p.cells] (.v (.bool (sameId p.id q))) := by
  unfold sameId
  refine fn_pure Tryz.F33 (Nat.le_of_ble_eq_true rfl) ?_; unfold Tryz.ac33
  repeat' (first
 | (apply Awp.sreg; (case hn => (simp only [List.length_cons, List.length_nil, Nat.reduceAdd] <;> rfl)))
 | (refine st_nil ?_)
 | (apply st_a; (case hc => rfl); (case he => (simp only [go_sem, *] <;> rfl)); (case hu => (simp only [updL_nil, updL_cons] <;> rfl)); (case hp => first | trivial))
 | (refine Awp.ret ?_; try simp only [go_sem, *]))
  all_goals repeat' (first | exact Lower.bool (by first | rfl | (simp only [true_and, Bool.true_and, Bool.false_and, Bool.and_true, Bool.and_false, Bool.true_or, Bool.false_or, reduceIte, Bool.false_eq_true, *]; done) | (simp only [true_and, reduceIte, Bool.false_eq_true, *] <;> rfl) | (simp [true_and]; done) | (simp_all [true_and]; done) | omega))
theorem gtId_ok (p q : Pt) : Pure Tryz.prog 35 [q.av, .rp p.cells] (.v (.bool (gtId p.id q))) := by
  unfold gtId
  refine fn_pure Tryz.F35 (Nat.le_of_ble_eq_true rfl) ?_; unfold Tryz.ac35
  repeat' (first
 | (apply Awp.sreg; (case hn => (simp only [List.length_cons, List.length_nil, Nat.reduceAdd] <;> rfl)))
 | (refine st_nil ?_)
 | (apply st_a; (case hc => rfl); (case he => (simp only [go_sem, *] <;> rfl)); (case hu => (simp only [updL_nil, updL_cons] <;> rfl)); (case hp => first | trivial))
 | (refine Awp.ret ?_; try simp only [go_sem, *]))
  all_goals repeat' (first | exact Lower.bool (by first | rfl | (simp only [true_and, Bool.true_and, Bool.false_and, Bool.and_true, Bool.and_false, Bool.true_or, Bool.false_or, reduceIte, Bool.false_eq_true, *]; done) | (simp only [true_and, reduceIte, Bool.false_eq_true, *] <;> rfl) | (simp [true_and]; done) | (simp_all [true_and]; done) | omega))
theorem add_ok (l : List Pt) (p : Pt) (now : Int) (hl : l.length < 10000) :
    Pure Tryz.prog 12 [.sl (pts l), p.av, .v (.int .i64 now)] (.tup [.sl (pts (addE l p now).1), .v (.int .i64 (addE l p now).2)]) := by
  have c0 := isid_ok p.id
  have c1 := containsPt1_ok l 33 p.cells (sameId p.id) (by omega) (fun i hi => sameId_ok p _)
  have c2 := indexPt1_ok l 35 p.cells (gtId p.id) (by omega) (fun i hi => gtId_ok p _)
  have c3 := clonePt_ok l (by omega)
  unfold addE
  cases h1 : idB p.id
  · rw [h1] at c0
    rw [if_pos (by decide)]
    refine fn_pure Tryz.F12 (Nat.le_of_ble_eq_true rfl) ?_; unfold Tryz.ac12
    repeat' (first
 | (apply Awp.sreg; (case hn => (simp only [List.length_cons, List.length_nil, Nat.reduceAdd] <;> rfl)))
 | (refine st_nil ?_)
 | (apply st_a; (case hc => rfl); (case he => (simp only [go_sem, *] <;> rfl)); (case hu => (simp only [updL_nil, updL_cons] <;> rfl)); (case hp => first | trivial))
 | (apply st_c; (case hc => (simp only [go_sem, *] <;> rfl)); (case hl => (simp only [go_sem, *] <;> rfl)); (case hn => (simp only [go_sem, *] <;> rfl)); (case hp => first | exact c0 | (have hXz := c0; simp only [go_sem, *] at hXz; exact hXz)))
 | (refine Awp.ret ?_; try simp only [go_sem, *])
 | refine Awp.block ?_
 | (apply Awp.cond; (case hc => (simp only [go_sem, *] <;> rfl)); all_goals (intro hg; (try simp only [Bool.not_true, Bool.not_false, reduceCtorEq] at hg)))
 | refine Awp.seq ?_)
    all_goals repeat' (first | exact Lower.int (by first | rfl | (simp only [true_and, Bool.true_and, Bool.false_and, Bool.and_true, Bool.and_false, Bool.true_or, Bool.false_or, reduceIte, Bool.false_eq_true, *]; done) | (simp only [true_and, reduceIte, Bool.false_eq_true, *] <;> rfl) | (simp [true_and]; done) | (simp_all [true_and]; done) | omega) | exact Lower.nilE (by first | rfl | (simp only [true_and, Bool.true_and, Bool.false_and, Bool.and_true, Bool.and_false, Bool.true_or, Bool.false_or, reduceIte, Bool.false_eq_true, *]; done) | (simp only [true_and, reduceIte, Bool.false_eq_true, *] <;> rfl) | (simp [true_and]; done) | (simp_all [true_and]; done) | omega) | refine Lower.tupF ?_ | refine All2.cons ?_ ?_ | exact All2.nil)
  rw [h1] at c0
  rw [if_neg (by decide)]
  cases h2 : badK p.k
  case true =>
    rw [if_pos rfl]
    unfold badK at h2
    refine fn_pure Tryz.F12 (Nat.le_of_ble_eq_true rfl) ?_; unfold Tryz.ac12
    repeat' (first
 | (apply Awp.sreg; (case hn => (simp only [List.length_cons, List.length_nil, Nat.reduceAdd] <;> rfl)))
 | (refine st_nil ?_)
 | (apply st_a; (case hc => rfl); (case he => (simp only [go_sem, *] <;> rfl)); (case hu => (simp only [updL_nil, updL_cons] <;> rfl)); (case hp => first | trivial))
 | (apply st_m; (case hc => rfl); (case hg => (simp only [go_sem, *] <;> rfl)); (case he => (intro hQz; (try simp only [wantB_t, wantB_f, Bool.and_eq_true, Bool.not_eq_true', Bool.not_true, Bool.not_false, and_true, true_and] at hQz); simp only [go_sem, *] <;> rfl)); (case hp => (intro hQz; (try simp only [wantB_t, wantB_f, Bool.and_eq_true, Bool.not_eq_true', Bool.or_eq_false_iff, decide_eq_true_eq, decide_eq_false_iff_not, beq_iff_eq, beq_eq_false_iff_ne, bne_iff_ne, bne_eq_false_iff_eq, Int.not_lt, Int.not_le, Int.ofNat_lt, Int.ofNat_le] at hQz); first | trivial)))
 | (apply st_c; (case hc => (simp only [go_sem, *] <;> rfl)); (case hl => (simp only [go_sem, *] <;> rfl)); (case hn => (simp only [go_sem, *] <;> rfl)); (case hp => first | exact c0 | (have hXz := c0; simp only [go_sem, *] at hXz; exact hXz)))
 | (refine Awp.ret ?_; try simp only [go_sem, *])
 | refine Awp.block ?_
 | (apply Awp.cond; (case hc => (simp only [go_sem, *] <;> rfl)); all_goals (intro hg; (try simp only [Bool.not_true, Bool.not_false, reduceCtorEq] at hg)))
 | refine Awp.seq ?_)
    all_goals (try (exfalso; simp only [Bool.or_true, Bool.true_or, Bool.or_false, Bool.false_or, Bool.and_true, Bool.true_and, Bool.and_false, Bool.false_and, Bool.not_true, Bool.not_false, reduceCtorEq, *] at h2; done))
    all_goals repeat' (first | exact Lower.int (by first | rfl | (simp only [true_and, Bool.true_and, Bool.false_and, Bool.and_true, Bool.and_false, Bool.true_or, Bool.false_or, reduceIte, Bool.false_eq_true, *]; done) | (simp only [true_and, reduceIte, Bool.false_eq_true, *] <;> rfl) | (simp [true_and]; done) | (simp_all [true_and]; done) | omega) | exact Lower.nilE (by first | rfl | (simp only [true_and, Bool.true_and, Bool.false_and, Bool.and_true, Bool.and_false, Bool.true_or, Bool.false_or, reduceIte, Bool.false_eq_true, *]; done) | (simp only [true_and, reduceIte, Bool.false_eq_true, *] <;> rfl) | (simp [true_and]; done) | (simp_all [true_and]; done) | omega) | refine Lower.tupF ?_ | refine All2.cons ?_ ?_ | exact All2.nil)
  rw [if_neg (by decide)]
  unfold badK at h2
  cases h3 : badT p.a p.b now
  case true =>
    rw [if_pos rfl]
    unfold badT at h3
    refine fn_pure Tryz.F12 (Nat.le_of_ble_eq_true rfl) ?_; unfold Tryz.ac12
    repeat' (first
 | (apply Awp.sreg; (case hn => (simp only [List.length_cons, List.length_nil, Nat.reduceAdd] <;> rfl)))
 | (refine st_nil ?_)
 | (apply st_a; (case hc => rfl); (case he => (simp only [go_sem, *] <;> rfl)); (case hu => (simp only [updL_nil, updL_cons] <;> rfl)); (case hp => first | trivial))
 | (apply st_m; (case hc => rfl); (case hg => (simp only [go_sem, *] <;> rfl)); (case he => (intro hQz; (try simp only [wantB_t, wantB_f, Bool.and_eq_true, Bool.not_eq_true', Bool.not_true, Bool.not_false, and_true, true_and] at hQz); simp only [go_sem, *] <;> rfl)); (case hp => (intro hQz; (try simp only [wantB_t, wantB_f, Bool.and_eq_true, Bool.not_eq_true', Bool.or_eq_false_iff, decide_eq_true_eq, decide_eq_false_iff_not, beq_iff_eq, beq_eq_false_iff_ne, bne_iff_ne, bne_eq_false_iff_eq, Int.not_lt, Int.not_le, Int.ofNat_lt, Int.ofNat_le] at hQz); first | trivial)))
 | (apply st_c; (case hc => (simp only [go_sem, *] <;> rfl)); (case hl => (simp only [go_sem, *] <;> rfl)); (case hn => (simp only [go_sem, *] <;> rfl)); (case hp => first | exact c0 | (have hXz := c0; simp only [go_sem, *] at hXz; exact hXz)))
 | (refine Awp.ret ?_; try simp only [go_sem, *])
 | refine Awp.block ?_
 | (apply Awp.cond; (case hc => (simp only [go_sem, *] <;> rfl)); all_goals (intro hg; (try simp only [Bool.not_true, Bool.not_false, reduceCtorEq] at hg)))
 | refine Awp.seq ?_)
    all_goals (try (exfalso; simp only [Bool.or_true, Bool.true_or, Bool.or_false, Bool.false_or, Bool.and_true, Bool.true_and, Bool.and_false, Bool.false_and, Bool.not_true, Bool.not_false, reduceCtorEq, *] at h2; done))
    all_goals (try (exfalso; simp only [Bool.or_true, Bool.true_or, Bool.or_false, Bool.false_or, Bool.and_true, Bool.true_and, Bool.and_false, Bool.false_and, Bool.not_true, Bool.not_false, reduceCtorEq, *] at h3; done))
    all_goals repeat' (first | exact Lower.int (by first | rfl | (simp only [true_and, Bool.true_and, Bool.false_and, Bool.and_true, Bool.and_false, Bool.true_or, Bool.false_or, reduceIte, Bool.false_eq_true, *]; done) | (simp only [true_and, reduceIte, Bool.false_eq_true, *] <;> rfl) | (simp [true_and]; done) | (simp_all [true_and]; done) | omega) | exact Lower.nilE (by first | rfl | (simp only [true_and, Bool.true_and, Bool.false_and, Bool.and_true, Bool.and_false, Bool.true_or, Bool.false_or, reduceIte, Bool.false_eq_true, *]; done) | (simp only [true_and, reduceIte, Bool.false_eq_true, *] <;> rfl) | (simp [true_and]; done) | (simp_all [true_and]; done) | omega) | refine Lower.tupF ?_ | refine All2.cons ?_ ?_ | exact All2.nil)
  rw [if_neg (by decide)]
  unfold badT at h3
  cases h4 : l.any (sameId p.id)
  case true =>
    rw [h4] at c1
    rw [if_pos rfl]
    refine fn_pure Tryz.F12 (Nat.le_of_ble_eq_true rfl) ?_; unfold Tryz.ac12
    repeat' (first
 | (apply Awp.sreg; (case hn => (simp only [List.length_cons, List.length_nil, Nat.reduceAdd] <;> rfl)))
 | (refine st_nil ?_)
 | (apply st_a; (case hc => rfl); (case he => (simp only [go_sem, *] <;> rfl)); (case hu => (simp only [updL_nil, updL_cons] <;> rfl)); (case hp => first | trivial))
 | (apply st_m; (case hc => rfl); (case hg => (simp only [go_sem, *] <;> rfl)); (case he => (intro hQz; (try simp only [wantB_t, wantB_f, Bool.and_eq_true, Bool.not_eq_true', Bool.not_true, Bool.not_false, and_true, true_and] at hQz); simp only [go_sem, *] <;> rfl)); (case hp => (intro hQz; (try simp only [wantB_t, wantB_f, Bool.and_eq_true, Bool.not_eq_true', Bool.or_eq_false_iff, decide_eq_true_eq, decide_eq_false_iff_not, beq_iff_eq, beq_eq_false_iff_ne, bne_iff_ne, bne_eq_false_iff_eq, Int.not_lt, Int.not_le, Int.ofNat_lt, Int.ofNat_le] at hQz); first | trivial)))
 | (apply st_c; (case hc => (simp only [go_sem, *] <;> rfl)); (case hl => (simp only [go_sem, *] <;> rfl)); (case hn => (simp only [go_sem, *] <;> rfl)); (case hp => first | exact c0 | (have hXz := c0; simp only [go_sem, *] at hXz; exact hXz)))
 | (apply st_cd; (case hc => (simp only [go_sem, *] <;> rfl)); (case hl => (simp only [go_sem, *] <;> rfl)); (case hn => (simp only [go_sem, *] <;> rfl)); (case hp => first | exact c1 | (have hXz := c1; simp only [go_sem, *] at hXz; exact hXz)); (case hd => first | exact .v _ | exact .any | exact .nils | (repeat' (first | exact Dry.v _ | exact Dry.any | exact Dry.nils | exact Dry.slE | refine Dry.agg ?_ | refine Dry.tup ?_ | (refine List.forall_mem_cons.2 (And.intro ?_ ?_)) | (intro cQ hQ; cases hQ; done)))); (case hm => first | decide | (simp; done)))
 | (refine Awp.ret ?_; try simp only [go_sem, *])
 | refine Awp.block ?_
 | (apply Awp.cond; (case hc => (simp only [go_sem, *] <;> rfl)); all_goals (intro hg; (try simp only [Bool.not_true, Bool.not_false, reduceCtorEq] at hg)))
 | refine Awp.seq ?_)
    all_goals (try (exfalso; simp only [Bool.or_true, Bool.true_or, Bool.or_false, Bool.false_or, Bool.and_true, Bool.true_and, Bool.and_false, Bool.false_and, Bool.not_true, Bool.not_false, reduceCtorEq, *] at h2; done))
    all_goals (try (exfalso; simp only [Bool.or_true, Bool.true_or, Bool.or_false, Bool.false_or, Bool.and_true, Bool.true_and, Bool.and_false, Bool.false_and, Bool.not_true, Bool.not_false, reduceCtorEq, *] at h3; done))
    all_goals repeat' (first | exact Lower.int (by first | rfl | (simp only [true_and, Bool.true_and, Bool.false_and, Bool.and_true, Bool.and_false, Bool.true_or, Bool.false_or, reduceIte, Bool.false_eq_true, *]; done) | (simp only [true_and, reduceIte, Bool.false_eq_true, *] <;> rfl) | (simp [true_and]; done) | (simp_all [true_and]; done) | omega) | exact Lower.nilE (by first | rfl | (simp only [true_and, Bool.true_and, Bool.false_and, Bool.and_true, Bool.and_false, Bool.true_or, Bool.false_or, reduceIte, Bool.false_eq_true, *]; done) | (simp only [true_and, reduceIte, Bool.false_eq_true, *] <;> rfl) | (simp [true_and]; done) | (simp_all [true_and]; done) | omega) | refine Lower.tupF ?_ | refine All2.cons ?_ ?_ | exact All2.nil)
  rw [h4] at c1
  rw [if_neg (by decide)]
  by_cases h5 : 64 ≤ l.length
  · rw [if_pos h5]
    have h5' : (64 : Int) ≤ l.length := by omega
    refine fn_pure Tryz.F12 (Nat.le_of_ble_eq_true rfl) ?_; unfold Tryz.ac12
    repeat' (first
 | (apply Awp.sreg; (case hn => (simp only [List.length_cons, List.length_nil, Nat.reduceAdd] <;> rfl)))
 | (refine st_nil ?_)
 | (apply st_a; (case hc => rfl); (case he => (simp only [go_sem, *] <;> rfl)); (case hu => (simp only [updL_nil, updL_cons] <;> rfl)); (case hp => first | trivial))
 | (apply st_m; (case hc => rfl); (case hg => (simp only [go_sem, *] <;> rfl)); (case he => (intro hQz; (try simp only [wantB_t, wantB_f, Bool.and_eq_true, Bool.not_eq_true', Bool.not_true, Bool.not_false, and_true, true_and] at hQz); simp only [go_sem, *] <;> rfl)); (case hp => (intro hQz; (try simp only [wantB_t, wantB_f, Bool.and_eq_true, Bool.not_eq_true', Bool.or_eq_false_iff, decide_eq_true_eq, decide_eq_false_iff_not, beq_iff_eq, beq_eq_false_iff_ne, bne_iff_ne, bne_eq_false_iff_eq, Int.not_lt, Int.not_le, Int.ofNat_lt, Int.ofNat_le] at hQz); first | trivial)))
 | (apply st_c; (case hc => (simp only [go_sem, *] <;> rfl)); (case hl => (simp only [go_sem, *] <;> rfl)); (case hn => (simp only [go_sem, *] <;> rfl)); (case hp => first | exact c0 | (have hXz := c0; simp only [go_sem, *] at hXz; exact hXz)))
 | (apply st_cd; (case hc => (simp only [go_sem, *] <;> rfl)); (case hl => (simp only [go_sem, *] <;> rfl)); (case hn => (simp only [go_sem, *] <;> rfl)); (case hp => first | exact c1 | (have hXz := c1; simp only [go_sem, *] at hXz; exact hXz)); (case hd => first | exact .v _ | exact .any | exact .nils | (repeat' (first | exact Dry.v _ | exact Dry.any | exact Dry.nils | exact Dry.slE | refine Dry.agg ?_ | refine Dry.tup ?_ | (refine List.forall_mem_cons.2 (And.intro ?_ ?_)) | (intro cQ hQ; cases hQ; done)))); (case hm => first | decide | (simp; done)))
 | (refine Awp.ret ?_; try simp only [go_sem, *])
 | refine Awp.block ?_
 | (apply Awp.cond; (case hc => (simp only [go_sem, *] <;> rfl)); all_goals (intro hg; (try simp only [Bool.not_true, Bool.not_false, reduceCtorEq] at hg)))
 | refine Awp.seq ?_)
    all_goals (try (exfalso; simp only [Bool.or_true, Bool.true_or, Bool.or_false, Bool.false_or, Bool.and_true, Bool.true_and, Bool.and_false, Bool.false_and, Bool.not_true, Bool.not_false, reduceCtorEq, *] at h2; done))
    all_goals (try (exfalso; simp only [Bool.or_true, Bool.true_or, Bool.or_false, Bool.false_or, Bool.and_true, Bool.true_and, Bool.and_false, Bool.false_and, Bool.not_true, Bool.not_false, reduceCtorEq, *] at h3; done))
    all_goals repeat' (first | exact Lower.int (by first | rfl | (simp only [true_and, Bool.true_and, Bool.false_and, Bool.and_true, Bool.and_false, Bool.true_or, Bool.false_or, reduceIte, Bool.false_eq_true, *]; done) | (simp only [true_and, reduceIte, Bool.false_eq_true, *] <;> rfl) | (simp [true_and]; done) | (simp_all [true_and]; done) | omega) | exact Lower.nilE (by first | rfl | (simp only [true_and, Bool.true_and, Bool.false_and, Bool.and_true, Bool.and_false, Bool.true_or, Bool.false_or, reduceIte, Bool.false_eq_true, *]; done) | (simp only [true_and, reduceIte, Bool.false_eq_true, *] <;> rfl) | (simp [true_and]; done) | (simp_all [true_and]; done) | omega) | refine Lower.tupF ?_ | refine All2.cons ?_ ?_ | exact All2.nil)
  rw [if_neg h5]
  have h5' : ¬ (64 : Int) ≤ l.length := by omega
  unfold posP
  rcases idxF_some (p := gtId p.id) (l := l) zeroPt with ⟨hI, _⟩ | ⟨i, hil, hI, _, _⟩
  · rw [hI] at c2 ⊢
    rw [if_pos (by decide)]
    have ci := fun b v nm hb => insert_cc l p l.length (Nat.le_refl _) hl b v nm hb
    clear h1 h4 h5 hI
    refine fn_pure Tryz.F12 (Nat.le_of_ble_eq_true rfl) ?_; unfold Tryz.ac12
    repeat' (first
 | (apply Awp.sreg; (case hn => (simp only [List.length_cons, List.length_nil, Nat.reduceAdd] <;> rfl)))
 | (apply Awp.sdraw; (case hn => (simp only [List.length_cons, List.length_nil, Nat.reduceAdd] <;> rfl)))
 | (refine st_nil ?_)
 | (apply st_a; (case hc => rfl); (case he => (simp only [go_sem, *] <;> rfl)); (case hu => (simp only [updL_nil, updL_cons] <;> rfl)); (case hp => first | trivial))
 | (apply st_m; (case hc => rfl); (case hg => (simp only [go_sem, *] <;> rfl)); (case he => (intro hQz; (try simp only [wantB_t, wantB_f, Bool.and_eq_true, Bool.not_eq_true', Bool.not_true, Bool.not_false, and_true, true_and] at hQz); simp only [go_sem, *] <;> rfl)); (case hp => (intro hQz; (try simp only [wantB_t, wantB_f, Bool.and_eq_true, Bool.not_eq_true', Bool.or_eq_false_iff, decide_eq_true_eq, decide_eq_false_iff_not, beq_iff_eq, beq_eq_false_iff_ne, bne_iff_ne, bne_eq_false_iff_eq, Int.not_lt, Int.not_le, Int.ofNat_lt, Int.ofNat_le] at hQz); first | trivial)))
 | (apply st_c; (case hc => (simp only [go_sem, *] <;> rfl)); (case hl => (simp only [go_sem, *] <;> rfl)); (case hn => (simp only [go_sem, *] <;> rfl)); (case hp => first | exact c0 | (have hXz := c0; simp only [go_sem, *] at hXz; exact hXz)))
 | (apply st_cd; (case hc => (simp only [go_sem, *] <;> rfl)); (case hl => (simp only [go_sem, *] <;> rfl)); (case hn => (simp only [go_sem, *] <;> rfl)); (case hp => first | exact c1 | (have hXz := c1; simp only [go_sem, *] at hXz; exact hXz)); (case hd => first | exact .v _ | exact .any | exact .nils | (repeat' (first | exact Dry.v _ | exact Dry.any | exact Dry.nils | exact Dry.slE | refine Dry.agg ?_ | refine Dry.tup ?_ | (refine List.forall_mem_cons.2 (And.intro ?_ ?_)) | (intro cQ hQ; cases hQ; done)))); (case hm => first | decide | (simp; done)))
 | (apply st_cd; (case hc => (simp only [go_sem, *] <;> rfl)); (case hl => (simp only [go_sem, *] <;> rfl)); (case hn => (simp only [go_sem, *] <;> rfl)); (case hp => first | exact c2 | (have hXz := c2; simp only [go_sem, *] at hXz; exact hXz)); (case hd => first | exact .v _ | exact .any | exact .nils | (repeat' (first | exact Dry.v _ | exact Dry.any | exact Dry.nils | exact Dry.slE | refine Dry.agg ?_ | refine Dry.tup ?_ | (refine List.forall_mem_cons.2 (And.intro ?_ ?_)) | (intro cQ hQ; cases hQ; done)))); (case hm => first | decide | (simp; done)))
 | (apply Awp.reg; (case hn => (simp only [List.length_cons, List.length_nil, Nat.reduceAdd] <;> rfl)))
 | (refine Awp.ret ?_; try simp only [go_sem, *])
 | (refine Awp.skip ?_; try simp only [go_sem, *])
 | refine Awp.block ?_
 | (apply Awp.cond; (case hc => (simp only [go_sem, *] <;> rfl)); all_goals (intro hg; (try simp only [Bool.not_true, Bool.not_false, reduceCtorEq] at hg)))
 | refine Awp.seq ?_
 | (apply sl_a; (case hc => rfl); (case he => (simp only [go_sem, *] <;> rfl)); (case hu => (simp only [updL_nil, updL_cons] <;> rfl)); (case hl => (simp only [List.map_cons, List.map_nil] <;> rfl)); (case hp => first | trivial | (simp; done)))
 | (apply sl_cod; (case hc => (simp only [go_sem, *] <;> rfl)); (case hl => (simp only [go_sem, *] <;> rfl)); (case hn => (simp only [go_sem, *] <;> rfl)); (case hp => first | exact c3 | (have hXz := c3; simp only [go_sem, *] at hXz; exact hXz)); (case hd => first | exact sps_dry _ | exact ints_dry _ | exact pts_dry _ | exact strs_dry _ | (repeat' (first | exact Dry.v _ | exact Dry.any | exact Dry.nils | exact Dry.slE | refine Dry.agg ?_ | refine Dry.tup ?_ | (refine List.forall_mem_cons.2 (And.intro ?_ ?_)) | (intro cQ hQ; cases hQ; done)))); (case hm => first | decide | (simp; done)))
 | (apply sl_cc; (case hc => (simp only [go_sem, *] <;> rfl)); (case hcc => exact (ci _ _ _ (by decide))); (case hh => (first | (simp only [List.mem_singleton, forall_eq]; first | (simp only [go_sem, *] <;> rfl) | (simp only [go_sem, *]; simp [ints])) | (intro p hp; cases hp; done) | (intro p hp; simp only [List.mem_cons, List.not_mem_nil, or_false] at hp; rcases hp with rfl | rfl | rfl | rfl | rfl | rfl | rfl <;> (simp only [go_sem, *] <;> rfl)) | (intro p hp; simp only [List.mem_cons, List.not_mem_nil, or_false] at hp; rcases hp with rfl | rfl | rfl | rfl <;> (simp only [go_sem, *] <;> rfl)))); (case hu => (first | (simp; done) | decide)); (case hm => (first | decide | (simp; done))); (case hw => (simp only [updL_nil, updL_cons] <;> rfl)))
 | (refine sl_nil (And.intro (by first | exact drawOk_of (by decide +kernel) | (simp only [List.map_cons, List.map_nil]; exact drawOk_of (by decide +kernel)) | decide) ?_)))
    all_goals (try (exfalso; simp only [Bool.or_true, Bool.true_or, Bool.or_false, Bool.false_or, Bool.and_true, Bool.true_and, Bool.and_false, Bool.false_and, Bool.not_true, Bool.not_false, reduceCtorEq, *] at h2; done))
    all_goals (try (exfalso; simp only [Bool.or_true, Bool.true_or, Bool.or_false, Bool.false_or, Bool.and_true, Bool.true_and, Bool.and_false, Bool.false_and, Bool.not_true, Bool.not_false, reduceCtorEq, *] at h3; done))
    all_goals repeat' (first | exact Lower.int (by first | rfl | (simp only [true_and, Bool.true_and, Bool.false_and, Bool.and_true, Bool.and_false, Bool.true_or, Bool.false_or, reduceIte, Bool.false_eq_true, *]; done) | (simp only [true_and, reduceIte, Bool.false_eq_true, *] <;> rfl) | (simp [true_and]; done) | (simp_all [true_and]; done) | omega) | exact Lower.ownE (by simp only [go_sem, *] <;> rfl) (by first | rfl | (simp only [true_and, Bool.true_and, Bool.false_and, Bool.and_true, Bool.and_false, Bool.true_or, Bool.false_or, reduceIte, Bool.false_eq_true, *]; done) | (simp only [true_and, reduceIte, Bool.false_eq_true, *] <;> rfl) | (simp [true_and]; done) | (simp_all [true_and]; done) | omega) | refine Lower.tupF ?_ | refine All2.cons ?_ ?_ | exact All2.nil)
  · rw [hI] at c2 ⊢
    rw [if_neg (by omega), Int.toNat_natCast]
    have hi0 : decide ((i : Int) < 0) = false := decide_eq_false (by omega)
    have ci := fun b v nm hb => insert_cc l p i (Nat.le_of_lt hil) hl b v nm hb
    clear h1 h4 h5 hI
    refine fn_pure Tryz.F12 (Nat.le_of_ble_eq_true rfl) ?_; unfold Tryz.ac12
    repeat' (first
 | (apply Awp.sreg; (case hn => (simp only [List.length_cons, List.length_nil, Nat.reduceAdd] <;> rfl)))
 | (apply Awp.sdraw; (case hn => (simp only [List.length_cons, List.length_nil, Nat.reduceAdd] <;> rfl)))
 | (refine st_nil ?_)
 | (apply st_a; (case hc => rfl); (case he => (simp only [go_sem, *] <;> rfl)); (case hu => (simp only [updL_nil, updL_cons] <;> rfl)); (case hp => first | trivial))
 | (apply st_m; (case hc => rfl); (case hg => (simp only [go_sem, *] <;> rfl)); (case he => (intro hQz; (try simp only [wantB_t, wantB_f, Bool.and_eq_true, Bool.not_eq_true', Bool.not_true, Bool.not_false, and_true, true_and] at hQz); simp only [go_sem, *] <;> rfl)); (case hp => (intro hQz; (try simp only [wantB_t, wantB_f, Bool.and_eq_true, Bool.not_eq_true', Bool.or_eq_false_iff, decide_eq_true_eq, decide_eq_false_iff_not, beq_iff_eq, beq_eq_false_iff_ne, bne_iff_ne, bne_eq_false_iff_eq, Int.not_lt, Int.not_le, Int.ofNat_lt, Int.ofNat_le] at hQz); first | trivial)))
 | (apply st_c; (case hc => (simp only [go_sem, *] <;> rfl)); (case hl => (simp only [go_sem, *] <;> rfl)); (case hn => (simp only [go_sem, *] <;> rfl)); (case hp => first | exact c0 | (have hXz := c0; simp only [go_sem, *] at hXz; exact hXz)))
 | (apply st_cd; (case hc => (simp only [go_sem, *] <;> rfl)); (case hl => (simp only [go_sem, *] <;> rfl)); (case hn => (simp only [go_sem, *] <;> rfl)); (case hp => first | exact c1 | (have hXz := c1; simp only [go_sem, *] at hXz; exact hXz)); (case hd => first | exact .v _ | exact .any | exact .nils | (repeat' (first | exact Dry.v _ | exact Dry.any | exact Dry.nils | exact Dry.slE | refine Dry.agg ?_ | refine Dry.tup ?_ | (refine List.forall_mem_cons.2 (And.intro ?_ ?_)) | (intro cQ hQ; cases hQ; done)))); (case hm => first | decide | (simp; done)))
 | (apply st_cd; (case hc => (simp only [go_sem, *] <;> rfl)); (case hl => (simp only [go_sem, *] <;> rfl)); (case hn => (simp only [go_sem, *] <;> rfl)); (case hp => first | exact c2 | (have hXz := c2; simp only [go_sem, *] at hXz; exact hXz)); (case hd => first | exact .v _ | exact .any | exact .nils | (repeat' (first | exact Dry.v _ | exact Dry.any | exact Dry.nils | exact Dry.slE | refine Dry.agg ?_ | refine Dry.tup ?_ | (refine List.forall_mem_cons.2 (And.intro ?_ ?_)) | (intro cQ hQ; cases hQ; done)))); (case hm => first | decide | (simp; done)))
 | (refine Awp.ret ?_; try simp only [go_sem, *])
 | (refine Awp.skip ?_; try simp only [go_sem, *])
 | refine Awp.block ?_
 | (apply Awp.cond; (case hc => (simp only [go_sem, *] <;> rfl)); all_goals (intro hg; (try simp only [Bool.not_true, Bool.not_false, reduceCtorEq] at hg)))
 | refine Awp.seq ?_
 | (apply sl_a; (case hc => rfl); (case he => (simp only [go_sem, *] <;> rfl)); (case hu => (simp only [updL_nil, updL_cons] <;> rfl)); (case hl => (simp only [List.map_cons, List.map_nil] <;> rfl)); (case hp => first | trivial | (simp; done)))
 | (apply sl_cod; (case hc => (simp only [go_sem, *] <;> rfl)); (case hl => (simp only [go_sem, *] <;> rfl)); (case hn => (simp only [go_sem, *] <;> rfl)); (case hp => first | exact c3 | (have hXz := c3; simp only [go_sem, *] at hXz; exact hXz)); (case hd => first | exact sps_dry _ | exact ints_dry _ | exact pts_dry _ | exact strs_dry _ | (repeat' (first | exact Dry.v _ | exact Dry.any | exact Dry.nils | exact Dry.slE | refine Dry.agg ?_ | refine Dry.tup ?_ | (refine List.forall_mem_cons.2 (And.intro ?_ ?_)) | (intro cQ hQ; cases hQ; done)))); (case hm => first | decide | (simp; done)))
 | (apply sl_cc; (case hc => (simp only [go_sem, *] <;> rfl)); (case hcc => exact (ci _ _ _ (by decide))); (case hh => (first | (simp only [List.mem_singleton, forall_eq]; first | (simp only [go_sem, *] <;> rfl) | (simp only [go_sem, *]; simp [ints])) | (intro p hp; cases hp; done) | (intro p hp; simp only [List.mem_cons, List.not_mem_nil, or_false] at hp; rcases hp with rfl | rfl | rfl | rfl | rfl | rfl | rfl <;> (simp only [go_sem, *] <;> rfl)) | (intro p hp; simp only [List.mem_cons, List.not_mem_nil, or_false] at hp; rcases hp with rfl | rfl | rfl | rfl <;> (simp only [go_sem, *] <;> rfl)))); (case hu => (first | (simp; done) | decide)); (case hm => (first | decide | (simp; done))); (case hw => (simp only [updL_nil, updL_cons] <;> rfl)))
 | (refine sl_nil (And.intro (by first | exact drawOk_of (by decide +kernel) | (simp only [List.map_cons, List.map_nil]; exact drawOk_of (by decide +kernel)) | decide) ?_)))
    all_goals (try (exfalso; simp only [Bool.or_true, Bool.true_or, Bool.or_false, Bool.false_or, Bool.and_true, Bool.true_and, Bool.and_false, Bool.false_and, Bool.not_true, Bool.not_false, reduceCtorEq, *] at h2; done))
    all_goals (try (exfalso; simp only [Bool.or_true, Bool.true_or, Bool.or_false, Bool.false_or, Bool.and_true, Bool.true_and, Bool.and_false, Bool.false_and, Bool.not_true, Bool.not_false, reduceCtorEq, *] at h3; done))
    all_goals repeat' (first | exact Lower.int (by first | rfl | (simp only [true_and, Bool.true_and, Bool.false_and, Bool.and_true, Bool.and_false, Bool.true_or, Bool.false_or, reduceIte, Bool.false_eq_true, *]; done) | (simp only [true_and, reduceIte, Bool.false_eq_true, *] <;> rfl) | (simp [true_and]; done) | (simp_all [true_and]; done) | omega) | exact Lower.ownE (by simp only [go_sem, *] <;> rfl) (by first | rfl | (simp only [true_and, Bool.true_and, Bool.false_and, Bool.and_true, Bool.and_false, Bool.true_or, Bool.false_or, reduceIte, Bool.false_eq_true, *]; done) | (simp only [true_and, reduceIte, Bool.false_eq_true, *] <;> rfl) | (simp [true_and]; done) | (simp_all [true_and]; done) | omega) | refine Lower.tupF ?_ | refine All2.cons ?_ ?_ | exact All2.nil)
end Go.Proofs
end
section
set_option linter.unusedVariables false
set_option linter.unusedSimpArgs false
namespace Go.Proofs
open Go Go.Ab
set_option maxHeartbeats 4000000
set_option maxRecDepth 100000
attribute [local irreducible] Awp aops aopsL Go.Ab.Pure PureOwn
def mkL (a b : List Sp) (k : Nat) : List Sp := (b.take k).foldl stepC (canon a)
def mnS (b L : List Sp) (k : Nat) : AState := mkS [(1, .sl (sps b)), (5, .own 2), (6, .v (.int .i64 k))] [(2, .row (sps L) 2 24)]
def mniS (b L N : List Sp) (k i : Nat) : AState := mkS [(1, .sl (sps b)), (5, .own 2), (6, .v (.int .i64 k)), (7, .own 3), (8, .v (.int .i64 i))] [(2, .row (sps L) 2 24), (3, .row (sps N) 2 24)]
end Go.Proofs
end
section
set_option linter.unusedVariables false
set_option linter.unusedSimpArgs false
namespace Go.Proofs
open Go Go.Ab
set_option maxHeartbeats 8000000
set_option maxRecDepth 100000
attribute [local irreducible] Awp aops aopsL Go.Ab.Pure PureOwn

def nxA (t e : Int) (s : Sp) : Int := if (decide (t < s.a) && decide (s.a < e)) = true then s.a else e
def nxB (t e : Int) (s : Sp) : Int := if (decide (t < s.b) && decide (s.b < e)) = true then s.b else e
def nxS (t e : Int) (s : Sp) : Int := nxB t (nxA t e s) s
def nextE (B : List Sp) (t e : Int) : Int := B.foldl (nxS t) e
def upto (a t : Int) (B : List Sp) : List Sp := canon (interL B [⟨a, t⟩])
theorem interC_ok (x y : Bool) : Pure Tryz.prog 58 [.v (.bool x), .v (.bool y)] (.v (.bool (x && y))) := by
  refine fn_pure Tryz.F58 (Nat.le_of_ble_eq_true rfl) ?_; unfold Tryz.ac58
  cases x <;> cases y
  all_goals (repeat' (first
 | (apply Awp.sreg; (case hn => (simp only [List.length_cons, List.length_nil, Nat.reduceAdd] <;> rfl)))
 | (refine st_nil ?_)
 | (apply st_a; (case hc => rfl); (case he => (simp only [go_sem, *] <;> rfl)); (case hu => (simp only [updL_nil, updL_cons] <;> rfl)); (case hp => first | trivial))
 | (apply st_m; (case hc => rfl); (case hg => (simp only [go_sem, *] <;> rfl)); (case he => (intro hQz; (try simp only [wantB_t, wantB_f, Bool.and_eq_true, Bool.not_eq_true', Bool.not_true, Bool.not_false, and_true, true_and] at hQz); simp only [go_sem, *] <;> rfl)); (case hp => (intro hQz; (try simp only [wantB_t, wantB_f, Bool.and_eq_true, Bool.not_eq_true', Bool.or_eq_false_iff, decide_eq_true_eq, decide_eq_false_iff_not, beq_iff_eq, beq_eq_false_iff_ne, bne_iff_ne, bne_eq_false_iff_eq, Int.not_lt, Int.not_le, Int.ofNat_lt, Int.ofNat_le] at hQz); first | trivial)))
 | (refine Awp.ret ?_; try simp only [go_sem, *])))
  all_goals repeat' (first | exact Lower.bool (by first | rfl | (simp only [true_and, Bool.true_and, Bool.false_and, Bool.and_true, Bool.and_false, Bool.true_or, Bool.false_or, reduceIte, Bool.false_eq_true, *]; done) | (simp only [true_and, reduceIte, Bool.false_eq_true, *] <;> rfl) | (simp [true_and]; done) | (simp_all [true_and]; done) | omega))
theorem ginter_ok (a b : List Sp) (ha : a.length < 2000) (hb : b.length < 2000) : PureOwn Tryz.prog 40 [.sl (sps a), .sl (sps b)] (sps (canon (interL a b))) 2 24 := by
  have c0 := sweep_ok 58 (fun x y => x && y) interC_ok rfl a b (interL a b) ha hb (fun n => by
    rw [inter_has, Bool.and_eq_true, hasB_iff, hasB_iff])
  refine fn_own Tryz.F40 (Nat.le_of_ble_eq_true rfl) ?_; unfold Tryz.ac40
  repeat' (first
 | (apply Awp.sreg; (case hn => (simp only [List.length_cons, List.length_nil, Nat.reduceAdd] <;> rfl)))
 | (refine st_nil ?_)
 | (apply st_a; (case hc => rfl); (case he => (simp only [go_sem, *] <;> rfl)); (case hu => (simp only [updL_nil, updL_cons] <;> rfl)); (case hp => first | trivial))
 | (apply st_co; (case hc => (simp only [go_sem, *] <;> rfl)); (case hl => (simp only [go_sem, *] <;> rfl)); (case hn => (simp only [go_sem, *] <;> rfl)); (case hp => first | exact c0 | (have hXz := c0; simp only [go_sem, *] at hXz; exact hXz)))
 | (refine Awp.ret ?_; try simp only [go_sem, *]))
  all_goals exact ⟨_, rfl, rfl⟩
def spP (q : Pt) : Sp := ⟨q.a, q.b⟩
def busyP (l : List Pt) (k : Int) : List Sp := (l.filter fun q => q.k == k).map spP
def covE (l : List Pt) (k : Int) (w : Sp) : List Sp := canon (interL (busyP l k) [w])
theorem busyP_step (l : List Pt) (k : Int) (i : Nat) (h : i < l.length) : busyP (l.take (i + 1)) k = busyP (l.take i) k ++ (if ((l.getD i zeroPt).k == k) = true then [spP (l.getD i zeroPt)] else []) := by
  rw [take_snoc l zeroPt i h]
  unfold busyP
  rw [List.filter_append, List.map_append]
  congr 1
  cases hp : ((l.getD i zeroPt).k == k)
  · rw [List.filter_cons_of_neg (by rw [hp]; simp)]; rfl
  · rw [List.filter_cons_of_pos (by rw [hp])]; rfl
theorem busyP_len (l : List Pt) (k : Int) : (busyP l k).length ≤ l.length := by unfold busyP; rw [List.length_map]; exact List.length_filter_le _ _
theorem cover_ok (l : List Pt) (k : Int) (w : Sp) (hl : l.length ≤ 1000) : PureOwn Tryz.prog 18 [.sl (pts l), .v (.int .i64 k), w.av] (sps (covE l k w)) 2 24 := by
  unfold covE
  refine fn_own Tryz.F18 (Nat.le_of_ble_eq_true rfl) ?_; unfold Tryz.ac18
  repeat' (first
 | (apply Awp.sreg; (case hn => (simp only [List.length_cons, List.length_nil, Nat.reduceAdd] <;> rfl)))
 | (refine st_nil ?_)
 | (apply st_a; (case hc => rfl); (case he => (simp only [go_sem, *] <;> rfl)); (case hu => (simp only [updL_nil, updL_cons] <;> rfl)); (case hp => first | trivial))
 | refine Awp.block ?_
 | refine Awp.seq ?_)
  refine Awp.loop (fun i : Nat => i ≤ l.length) 50 (fun i => mkS [(1, .v (.int .i64 k)), (5, .bp 0 0), (7, .own 1), (10, .sl (pts l)), (11, .v (.int .i64 l.length)), (12, .v (.int .i64 i))] [(0, .box w.cells), (1, .row (sps (busyP (l.take i) k)) 2 24)]) (fun i => l.length - i) 0 (by omega) ?_ ?_
  · refine Ghost.trans (Ghost.name 7 2 24 rfl (by decide)) ?_
    have e1 : busyP (l.take 0) k = [] := rfl
    rw [e1]
    (apply Ghost.mk [(1, 6)] []; (case hdead => rfl); (case hinj => rfl); (case hV => (simp only [go_sem, *]) <;> (repeat' (first | refine And.intro ?_ ?_ | exact View.int (by first | rfl | omega | (simp; done) | (rw [wrap_i64] <;> (try simp only [Int.natCast_add]) <;> omega) | (simp [*]; done)) | exact .bp rfl (by decide) | exact .own rfl (by decide)))); (case hB => (simp only [go_sem, *]) <;> (repeat' (first | refine And.intro ?_ ?_ | exact ⟨_, rfl, BView.boxF rfl⟩ | exact ⟨_, rfl, .rowE (by first | rfl | omega | (simp; done) | (rw [wrap_i64] <;> (try simp only [Int.natCast_add]) <;> omega) | (simp [*]; done))⟩))))
  · intro i hi
    by_cases hlt : i < l.length
    · have hlt' : (i : Int) < l.length := by omega
      have hat := pts_at l i hlt
      have hz : ((l.getD i zeroPt).cells).length = 4 := rfl
      have hst := busyP_step l k i hlt
      have hln := busyP_len (l.take i) k
      have htl : (l.take i).length = i := List.length_take_of_le hi
      generalize l.getD i zeroPt = x at *
      generalize busyP (l.take i) k = B at *
      cases hB : (x.k == k)
      · rw [hB] at hst
        simp only [Bool.false_eq_true, if_false, List.append_nil] at hst
        repeat' (first
 | (apply Awp.sreg; (case hn => (simp only [List.length_cons, List.length_nil, Nat.reduceAdd] <;> rfl)))
 | (refine st_nil ?_)
 | (apply st_a; (case hc => rfl); (case he => (simp only [go_sem, *] <;> rfl)); (case hu => (simp only [updL_nil, updL_cons] <;> rfl)); (case hp => first | trivial | omega))
 | (apply Awp.reg; (case hn => (simp only [List.length_cons, List.length_nil, Nat.reduceAdd] <;> rfl)))
 | (refine Awp.skip ?_; try simp only [go_sem, *])
 | refine Awp.block ?_
 | (apply Awp.cond; (case hc => (simp only [go_sem, *] <;> rfl)); all_goals (intro hg; (try simp only [Bool.not_true, Bool.not_false, reduceCtorEq] at hg)))
 | refine Awp.seq ?_)
        refine ⟨i + 1, by omega, by omega, ?_⟩
        rw [hst]
        clear hst
        (apply Ghost.mk [] []; (case hdead => rfl); (case hinj => rfl); (case hV => (simp only [go_sem, *]) <;> (repeat' (first | refine And.intro ?_ ?_ | exact View.int (by first | rfl | omega | (simp; done) | (rw [wrap_i64] <;> (try simp only [Int.natCast_add]) <;> omega) | (simp [*]; done)) | exact .bp rfl (by decide) | exact .own rfl (by decide)))); (case hB => (simp only [go_sem, *]) <;> (repeat' (first | refine And.intro ?_ ?_ | exact ⟨_, rfl, BView.boxF rfl⟩ | exact ⟨_, rfl, .rowE (by first | rfl | omega | (simp; done) | (rw [wrap_i64] <;> (try simp only [Int.natCast_add]) <;> omega) | (simp [*]; done))⟩))))
      · rw [hB] at hst
        simp only [if_true] at hst
        have esn := sps_snoc B (spP x)
        repeat' (first
 | (apply Awp.sreg; (case hn => (simp only [List.length_cons, List.length_nil, Nat.reduceAdd] <;> rfl)))
 | (refine st_nil ?_)
 | (apply st_a; (case hc => rfl); (case he => (simp only [go_sem, *] <;> rfl)); (case hu => (simp only [updL_nil, updL_cons] <;> rfl)); (case hp => first | trivial | omega | (simp; done) | (simp; omega)))
 | (apply Awp.reg; (case hn => (simp only [List.length_cons, List.length_nil, Nat.reduceAdd] <;> rfl)))
 | (refine Awp.skip ?_; try simp only [go_sem, *])
 | refine Awp.block ?_
 | (apply Awp.cond; (case hc => (simp only [go_sem, *] <;> rfl)); all_goals (intro hg; (try simp only [Bool.not_true, Bool.not_false, reduceCtorEq] at hg)))
 | refine Awp.seq ?_)
        refine ⟨i + 1, by omega, by omega, ?_⟩
        rw [hst]
        clear hst
        (apply Ghost.mk [(1, 63)] []; (case hdead => rfl); (case hinj => rfl); (case hV => (simp only [go_sem, *]) <;> (repeat' (first | refine And.intro ?_ ?_ | exact View.int (by first | rfl | exact esn | omega | (simp; done) | (rw [wrap_i64] <;> (try simp only [Int.natCast_add]) <;> omega) | (simp [*]; done)) | exact .bp rfl (by decide) | exact .own rfl (by decide)))); (case hB => (simp only [go_sem, *]) <;> (repeat' (first | refine And.intro ?_ ?_ | exact ⟨_, rfl, BView.boxF rfl⟩ | exact ⟨_, rfl, .rowE (by first | rfl | exact esn | omega | (simp; done) | (rw [wrap_i64] <;> (try simp only [Int.natCast_add]) <;> omega) | (simp [*]; done))⟩))))
    · have hlt' : ¬ (i : Int) < l.length := by omega
      have e1 : l.take i = l := List.take_of_length_le (by omega)
      rw [e1]
      have hln := busyP_len l k
      have h1 := sps_one1 w
      have c0 := ginter_ok (busyP l k) [w] (by omega) (by simp)
      generalize busyP l k = B at *
      repeat' (first
 | (apply Awp.sreg; (case hn => (simp only [List.length_cons, List.length_nil, Nat.reduceAdd] <;> rfl)))
 | (refine st_nil ?_)
 | (apply st_a; (case hc => rfl); (case he => (simp only [go_sem, *] <;> rfl)); (case hu => (simp only [updL_nil, updL_cons] <;> rfl)); (case hp => first | trivial | (simp; done)))
 | (apply st_cod; (case hc => (simp only [go_sem, *] <;> rfl)); (case hl => (simp only [go_sem, *] <;> rfl)); (case hn => (simp only [go_sem, *] <;> rfl)); (case hp => first | exact c0 | (have hXz := c0; simp only [go_sem, *] at hXz; exact hXz)); (case hd => first | exact sps_dry _ | exact ints_dry _ | exact pts_dry _ | exact strs_dry _ | (repeat' (first | exact Dry.v _ | exact Dry.any | exact Dry.nils | exact Dry.slE | refine Dry.agg ?_ | refine Dry.tup ?_ | (refine List.forall_mem_cons.2 (And.intro ?_ ?_)) | (intro cQ hQ; cases hQ; done)))); (case hm => first | decide | (simp; done)))
 | (refine Awp.ret ?_; try simp only [go_sem, *])
 | (refine Awp.exit ?_; try simp only [go_sem, *])
 | (apply Awp.cond; (case hc => (simp only [go_sem, *] <;> rfl)); all_goals (intro hg; (try simp only [Bool.not_true, Bool.not_false, reduceCtorEq] at hg)))
 | refine Awp.seq ?_)
      all_goals exact ⟨_, rfl, rfl⟩
end Go.Proofs
end
section
set_option linter.unusedVariables false
set_option linter.unusedSimpArgs false
namespace Go.Proofs
open Go Go.Ab
set_option maxHeartbeats 8000000
set_option maxRecDepth 100000
attribute [local irreducible] Awp aops aopsL Go.Ab.Pure PureOwn

end Go.Proofs
end
section
set_option linter.unusedVariables false
set_option linter.unusedSimpArgs false
namespace Go.Proofs
open Go Go.Ab
set_option maxHeartbeats 8000000
set_option maxRecDepth 100000
attribute [local irreducible] Awp aops aopsL Go.Ab.Pure PureOwn

def Hid (p : Prop) : Prop := p
def hasK (K : List ByteArray) (s : ByteArray) : Bool := K.any (fun x => s.toList == x.toList)
def tT (K : List ByteArray) : List AV := K.map fun _ => AV.v (.bool true)
def delKey (K : List ByteArray) (s : ByteArray) : List ByteArray := delK K (mapIx K s)
theorem mapIx_none {K : List ByteArray} {s : ByteArray} : mapIx K s = none ↔ hasK K s = false := by
  unfold mapIx hasK
  rw [List.findIdx?_eq_none_iff, List.any_eq_false]
  simp
theorem hasK_some {K : List ByteArray} {s : ByteArray} {i : Nat} (h : mapIx K s = some i) : hasK K s = true := by
  cases hb : hasK K s
  · rw [mapIx_none.2 hb] at h; cases h
  · rfl
theorem mapVal_T (K : List ByteArray) (s : ByteArray) : mapVal (tT K) (.v (.bool false)) (mapIx K s) = .v (.bool (hasK K s)) := by
  cases h : mapIx K s with
  | none => rw [mapIx_none.1 h]; rfl
  | some i =>
    rw [hasK_some h]
    have := mapIx_lt h
    unfold mapVal tT av
    simp [List.getD_eq_getElem?_getD, this]
theorem del_T (K : List ByteArray) (s : ByteArray) : delK (tT K) (mapIx K s) = tT (delKey K s) := by
  unfold delKey tT
  cases mapIx K s with
  | none => rfl
  | some i =>
    simp only [delK]
    apply List.ext_getElem?
    intro j
    simp only [List.getElem?_eraseIdx, List.getElem?_map]
    split <;> rfl
theorem put_T {K : List ByteArray} {s : ByteArray} (h : hasK K s = false) : putV (tT K) (.v (.bool true)) (mapIx K s) = tT (K ++ [s]) ∧ putK K s (mapIx K s) = K ++ [s] := by
  rw [mapIx_none.2 h]
  exact ⟨by simp [putV, tT], rfl⟩
@[go_sem] theorem tT_len (K : List ByteArray) : (tT K).length = K.length := by simp [tT]
def rndS (K : List ByteArray) (q : Te) : List ByteArray := if q.af.any (hasK K) then K else delKey K q.id
def rnd (l : List Te) (K : List ByteArray) : List ByteArray := l.foldl rndS K
theorem del_len (K : List ByteArray) (s : ByteArray) : (delKey K s).length ≤ K.length := by
  unfold delKey
  cases mapIx K s with
  | none => exact Nat.le_refl _
  | some i => simp only [delK]; exact List.length_eraseIdx_le _ _
theorem rndS_len (K : List ByteArray) (q : Te) : (rndS K q).length ≤ K.length := by
  unfold rndS
  split
  · exact Nat.le_refl _
  · exact del_len K q.id
theorem rnd_len : ∀ (l : List Te) (K : List ByteArray), (rnd l K).length ≤ K.length
  | [], K => Nat.le_refl _
  | q :: l, K => Nat.le_trans (rnd_len l (rndS K q)) (rndS_len K q)
def passF (l : List Te) : Nat → List ByteArray → Bool
  | 0, K => K.length == 0
  | n + 1, K => if K.length = 0 then true else if (rnd l K).length = K.length then false else passF l n (rnd l K)
def idsT (l : List Te) : List ByteArray := l.map (·.id)
def passE (l : List Te) : Bool := passF l l.length (idsT l)
def DistT (l : List Te) : Prop := ∀ i, i < l.length → hasK (idsT (l.take i)) (l.getD i zeroTe).id = false
theorem passF_nil (l : List Te) (m : Nat) : passF l m [] = true := by
  cases m <;> rfl
theorem passF_any (l : List Te) : ∀ (n : Nat) (K : List ByteArray), K.length ≤ n → ∀ m, K.length ≤ m → passF l n K = passF l m K := by
  intro n
  induction n with
  | zero =>
    intro K h m _
    have : K = [] := List.eq_nil_of_length_eq_zero (by omega)
    rw [this, passF_nil, passF_nil]
  | succ n ih =>
    intro K h m hm
    by_cases h0 : K.length = 0
    · have : K = [] := List.eq_nil_of_length_eq_zero h0
      rw [this, passF_nil, passF_nil]
    · obtain ⟨m', rfl⟩ : ∃ m', m = m' + 1 := ⟨m - 1, by omega⟩
      have hl := rnd_len l K
      unfold passF
      rw [if_neg h0, if_neg h0]
      by_cases he : (rnd l K).length = K.length
      · rw [if_pos he, if_pos he]
      · rw [if_neg he, if_neg he]
        exact ih (rnd l K) (by omega) m' (by omega)
theorem passF_step {l : List Te} {K : List ByteArray} (h0 : K.length ≠ 0) : passF l K.length K = if (rnd l K).length = K.length then false else passF l (rnd l K).length (rnd l K) := by
  obtain ⟨m, hm⟩ : ∃ m, K.length = m + 1 := ⟨K.length - 1, by omega⟩
  have hl := rnd_len l K
  have e : passF l K.length K = passF l (m + 1) K := by rw [hm]
  rw [e]
  show (if K.length = 0 then true else if (rnd l K).length = K.length then false else passF l m (rnd l K)) = _
  rw [if_neg h0]
  by_cases he : (rnd l K).length = K.length
  · rw [if_pos he, if_pos he]
  · rw [if_neg he, if_neg he]
    exact passF_any l m (rnd l K) (by omega) _ (Nat.le_refl _)
theorem rnd_step (l : List Te) (K : List ByteArray) (i : Nat) (h : i < l.length) : rnd (l.take (i + 1)) K = rndS (rnd (l.take i) K) (l.getD i zeroTe) := by
  unfold rnd
  rw [take_snoc l zeroTe i h, List.foldl_append]
  rfl
theorem clos62 (K : List ByteArray) (s : ByteArray) : Pure Tryz.prog 62 [.v (.string s), .rp [.mpf K (tT K)]] (.v (.bool (hasK K s))) := by
  have h1 := mapVal_T K s
  refine fn_pure Tryz.F62 (Nat.le_of_ble_eq_true rfl) ?_; unfold Tryz.ac62
  repeat' (first
 | (apply Awp.sreg; (case hn => (simp only [List.length_cons, List.length_nil, Nat.reduceAdd] <;> rfl)))
 | (refine st_nil ?_)
 | (apply st_a; (case hc => rfl); (case he => (simp only [go_sem, *] <;> rfl)); (case hu => (simp only [updL_nil, updL_cons] <;> rfl)); (case hp => first | trivial))
 | (refine Awp.ret ?_; try simp only [go_sem, *]))
  all_goals repeat' (first | exact Lower.bool (by first | rfl | (simp only [true_and, Bool.true_and, Bool.false_and, Bool.and_true, Bool.and_false, Bool.true_or, Bool.false_or, reduceIte, Bool.false_eq_true, *]; done) | (simp only [true_and, reduceIte, Bool.false_eq_true, *] <;> rfl) | (simp [true_and]; done) | (simp_all [true_and]; done) | omega))
theorem passable_ok (l : List Te) (hl : l.length < 10000) (haf : ∀ i, i < l.length → (l.getD i zeroTe).af.length < 100000) (hd : DistT l) : Pure Tryz.prog 48 [.sl (tes l)] (.v (.bool (passE l))) := by
  refine fn_pure Tryz.F48 (Nat.le_of_ble_eq_true rfl) ?_; unfold Tryz.ac48
  repeat' (first
 | (apply Awp.sreg; (case hn => (simp only [List.length_cons, List.length_nil, Nat.reduceAdd] <;> rfl)))
 | (refine st_nil ?_)
 | (apply st_a; (case hc => rfl); (case he => (simp only [go_sem, *] <;> rfl)); (case hu => (simp only [updL_nil, updL_cons] <;> rfl)); (case hp => first | trivial))
 | refine Awp.block ?_
 | refine Awp.seq ?_)
  refine Awp.loop (fun i : Nat => i ≤ l.length) 60 (fun i => mkS [(0, .sl (tes l)), (3, .bp 0 0), (10, .sl (tes l)), (11, .v (.int .i64 l.length)), (12, .v (.int .i64 i))] [(0, .box [.mapv 1]), (1, .map (idsT (l.take i)) (tT (idsT (l.take i))))]) (fun i => l.length - i) 0 (by omega) ?_ ?_
  · clear haf hd
    have e1 : idsT (l.take 0) = [] := rfl
    rw [e1]
    (apply Ghost.mk [(0, 2), (1, 1)] []; (case hdead => rfl); (case hinj => rfl); (case hV => (simp only [go_sem, *]) <;> (repeat' (first | refine And.intro ?_ ?_ | exact View.int (by first | rfl | omega | (simp; done) | (rw [wrap_i64] <;> (try simp only [Int.natCast_add]) <;> omega) | (simp [*]; done)) | exact .bp rfl (by decide)))); (case hB => (simp only [go_sem, *]) <;> (repeat' (first | refine And.intro ?_ ?_ | exact ⟨_, rfl, BView.map1 rfl (by decide)⟩ | exact ⟨_, rfl, BView.mapE (by first | rfl | omega | (simp; done) | (rw [wrap_i64] <;> (try simp only [Int.natCast_add]) <;> omega) | (simp [*]; done)) (by first | rfl | omega | (simp; done) | (rw [wrap_i64] <;> (try simp only [Int.natCast_add]) <;> omega) | (simp [*]; done))⟩))))
  · intro i hi
    by_cases hlt : i < l.length
    · have hlt' : (i : Int) < l.length := by omega
      have hat := tes_at l i hlt
      have hz : ((l.getD i zeroTe).cells).length = 3 := rfl
      have hdi := put_T (hd i hlt)
      have hst : idsT (l.take (i + 1)) = idsT (l.take i) ++ [(l.getD i zeroTe).id] := by
        rw [take_snoc l zeroTe i hlt]; simp [idsT]
      clear haf hd
      generalize l.getD i zeroTe = x at *
      generalize idsT (l.take i) = K at *
      obtain ⟨hd1, hd2⟩ := hdi
      repeat' (first
 | (apply Awp.sreg; (case hn => (simp only [List.length_cons, List.length_nil, Nat.reduceAdd] <;> rfl)))
 | (refine st_nil ?_)
 | (apply st_a; (case hc => rfl); (case he => (simp only [go_sem, *] <;> rfl)); (case hu => (simp only [updL_nil, updL_cons] <;> rfl)); (case hp => first | trivial | omega))
 | (apply Awp.reg; (case hn => (simp only [List.length_cons, List.length_nil, Nat.reduceAdd] <;> rfl)))
 | (refine Awp.skip ?_; try simp only [go_sem, *])
 | refine Awp.block ?_
 | (apply Awp.cond; (case hc => (simp only [go_sem, *] <;> rfl)); all_goals (intro hg; (try simp only [Bool.not_true, Bool.not_false, reduceCtorEq] at hg)))
 | refine Awp.seq ?_)
      refine ⟨i + 1, by omega, by omega, ?_⟩
      rw [hst]
      clear hst
      (apply Ghost.mk [] []; (case hdead => rfl); (case hinj => rfl); (case hV => (simp only [go_sem, *]) <;> (repeat' (first | refine And.intro ?_ ?_ | exact View.int (by first | rfl | omega | (simp; done) | (rw [wrap_i64] <;> (try simp only [Int.natCast_add]) <;> omega) | (simp [*]; done)) | exact .bp rfl (by decide)))); (case hB => (simp only [go_sem, *]) <;> (repeat' (first | refine And.intro ?_ ?_ | exact ⟨_, rfl, BView.map1 rfl (by decide)⟩ | exact ⟨_, rfl, BView.mapE (by first | rfl | omega | (simp; done) | (rw [wrap_i64] <;> (try simp only [Int.natCast_add]) <;> omega) | (simp [*]; done)) (by first | rfl | omega | (simp; done) | (rw [wrap_i64] <;> (try simp only [Int.natCast_add]) <;> omega) | (simp [*]; done))⟩))))
    · have hlt' : ¬ (i : Int) < l.length := by omega
      have e1 : l.take i = l := List.take_of_length_le (by omega)
      rw [e1]
      clear hd hlt hi
      repeat' (first
 | (apply Awp.sreg; (case hn => (simp only [List.length_cons, List.length_nil, Nat.reduceAdd] <;> rfl)))
 | (refine st_nil ?_)
 | (apply st_a; (case hc => rfl); (case he => (simp only [go_sem, *] <;> rfl)); (case hu => (simp only [updL_nil, updL_cons] <;> rfl)); (case hp => first | trivial))
 | (refine Awp.exit ?_; try simp only [go_sem, *])
 | refine Awp.block ?_
 | (apply Awp.cond; (case hc => (simp only [go_sem, *] <;> rfl)); all_goals (intro hg; (try simp only [Bool.not_true, Bool.not_false, reduceCtorEq] at hg)))
 | refine Awp.seq ?_)
      have hpl : passF l (idsT l).length (idsT l) = passE l := by unfold passE idsT; rw [List.length_map]
      have hll : (idsT l).length = l.length := by simp [idsT]
      refine Awp.loop (fun K : List ByteArray => K.length ≤ l.length ∧ passF l K.length K = passE l) 70 (fun K => mkS [(0, .sl (tes l)), (3, .bp 0 0)] [(0, .box [.mapv 1]), (1, .map K (tT K))]) (fun K => K.length) (idsT l) ⟨by omega, hpl⟩ ?_ ?_
      · clear haf hpl
        (apply Ghost.mk [] []; (case hdead => rfl); (case hinj => rfl); (case hV => (simp only [go_sem, *]) <;> (repeat' (first | exact .bp rfl (by decide)))); (case hB => (simp only [go_sem, *]) <;> (repeat' (first | refine And.intro ?_ ?_ | exact ⟨_, rfl, BView.map1 rfl (by decide)⟩ | exact ⟨_, rfl, BView.mapE (by first | rfl | omega | (simp; done) | (rw [wrap_i64] <;> (try simp only [Int.natCast_add]) <;> omega) | (simp [*]; done)) (by first | rfl | omega | (simp; done) | (rw [wrap_i64] <;> (try simp only [Int.natCast_add]) <;> omega) | (simp [*]; done))⟩))))
      · intro K ⟨hKl, hK⟩
        clear hpl hll
        by_cases h0 : K.length = 0
        · have hKn : K = [] := List.eq_nil_of_length_eq_zero h0
          have hK' : passE l = true := by rw [hKn, passF_nil] at hK; exact hK.symm
          have h0' : ¬ (0 : Int) < K.length := by omega
          clear haf hK hKn h0
          repeat' (first
 | (apply Awp.sreg; (case hn => (simp only [List.length_cons, List.length_nil, Nat.reduceAdd] <;> rfl)))
 | (refine st_nil ?_)
 | (apply st_a; (case hc => rfl); (case he => (simp only [go_sem, *] <;> rfl)); (case hu => (simp only [updL_nil, updL_cons] <;> rfl)); (case hp => first | trivial))
 | (refine Awp.ret ?_; try simp only [go_sem, *])
 | (refine Awp.exit ?_; try simp only [go_sem, *])
 | (apply Awp.cond; (case hc => (simp only [go_sem, *] <;> rfl)); all_goals (intro hg; (try simp only [Bool.not_true, Bool.not_false, reduceCtorEq] at hg)))
 | refine Awp.seq ?_)
          all_goals repeat' (first | exact Lower.bool (by first | rfl | (simp only [true_and, Bool.true_and, Bool.false_and, Bool.and_true, Bool.and_false, Bool.true_or, Bool.false_or, reduceIte, Bool.false_eq_true, *]; done) | (simp only [true_and, reduceIte, Bool.false_eq_true, *] <;> rfl) | (simp [true_and]; done) | (simp_all [true_and]; done) | omega))
        · have h0' : (0 : Int) < K.length := by omega
          rw [passF_step h0] at hK
          have hrl := rnd_len l K
          repeat' (first
 | (apply Awp.sreg; (case hn => (simp only [List.length_cons, List.length_nil, Nat.reduceAdd] <;> rfl)))
 | (refine st_nil ?_)
 | (apply st_a; (case hc => rfl); (case he => (simp only [go_sem, *] <;> rfl)); (case hu => (simp only [updL_nil, updL_cons] <;> rfl)); (case hp => first | trivial))
 | (refine Awp.skip ?_; try simp only [go_sem, *])
 | refine Awp.block ?_
 | (apply Awp.cond; (case hc => (simp only [go_sem, *] <;> rfl)); all_goals (intro hg; (try simp only [Bool.not_true, Bool.not_false, reduceCtorEq] at hg)))
 | refine Awp.seq ?_)
          refine Awp.loop (fun i : Nat => i ≤ l.length) 90 (fun i => mkS [(0, .sl (tes l)), (3, .bp 0 0), (6, .v (.int .i64 K.length)), (25, .sl (tes l)), (26, .v (.int .i64 l.length)), (27, .v (.int .i64 i))] [(0, .box [.mapv 1]), (1, .map (rnd (l.take i) K) (tT (rnd (l.take i) K)))]) (fun i => l.length - i) 0 (by omega) ?_ ?_
          · have e1 : rnd (l.take 0) K = K := rfl
            rw [e1]
            clear haf hK hrl
            (apply Ghost.mk [] []; (case hdead => rfl); (case hinj => rfl); (case hV => (simp only [go_sem, *]) <;> (repeat' (first | refine And.intro ?_ ?_ | exact View.int (by first | rfl | omega | (simp; done) | (rw [wrap_i64] <;> (try simp only [Int.natCast_add]) <;> omega) | (simp [*]; done)) | exact .bp rfl (by decide)))); (case hB => (simp only [go_sem, *]) <;> (repeat' (first | refine And.intro ?_ ?_ | exact ⟨_, rfl, BView.map1 rfl (by decide)⟩ | exact ⟨_, rfl, BView.mapE (by first | rfl | omega | (simp; done) | (rw [wrap_i64] <;> (try simp only [Int.natCast_add]) <;> omega) | (simp [*]; done)) (by first | rfl | omega | (simp; done) | (rw [wrap_i64] <;> (try simp only [Int.natCast_add]) <;> omega) | (simp [*]; done))⟩))))
          · intro i hi
            by_cases hlt : i < l.length
            · have hlt' : (i : Int) < l.length := by omega
              have hat := tes_at l i hlt
              have hz : ((l.getD i zeroTe).cells).length = 3 := rfl
              have hst := rnd_step l K i hlt
              have hafi := haf i hlt
              clear haf hK hrl h0 h0'
              generalize l.getD i zeroTe = x at *
              generalize rnd (l.take i) K = R at *
              have c0 := containsSt1_ok x.af 62 [.mpf R (tT R)] (hasK R) (by omega) (fun j hj => clos62 R _)
              unfold rndS at hst
              cases hB : x.af.any (hasK R)
              · rw [hB] at hst c0
                simp only [Bool.false_eq_true, if_false] at hst
                have hdel := del_T R x.id
                have hdk : delK R (mapIx R x.id) = delKey R x.id := rfl
                repeat' (first
 | (apply Awp.sreg; (case hn => (simp only [List.length_cons, List.length_nil, Nat.reduceAdd] <;> rfl)))
 | (refine st_nil ?_)
 | (apply st_a; (case hc => rfl); (case he => (simp only [go_sem, *] <;> rfl)); (case hu => (simp only [updL_nil, updL_cons] <;> rfl)); (case hp => first | trivial | omega))
 | (apply st_cd; (case hc => (simp only [go_sem, *] <;> rfl)); (case hl => (simp only [go_sem, *] <;> rfl)); (case hn => (simp only [go_sem, *] <;> rfl)); (case hp => first | exact c0 | (have hXz := c0; simp only [go_sem, *] at hXz; exact hXz)); (case hd => first | exact .v _ | exact .any | exact .nils | (repeat' (first | exact Dry.v _ | exact Dry.any | exact Dry.nils | exact Dry.slE | refine Dry.agg ?_ | refine Dry.tup ?_ | (refine List.forall_mem_cons.2 (And.intro ?_ ?_)) | (intro cQ hQ; cases hQ; done)))); (case hm => first | decide | (simp; done)))
 | (apply Awp.reg; (case hn => (simp only [List.length_cons, List.length_nil, Nat.reduceAdd] <;> rfl)))
 | (refine Awp.skip ?_; try simp only [go_sem, *])
 | refine Awp.block ?_
 | (apply Awp.cond; (case hc => (simp only [go_sem, *] <;> rfl)); all_goals (intro hg; (try simp only [Bool.not_true, Bool.not_false, reduceCtorEq] at hg)))
 | refine Awp.seq ?_)
                refine ⟨i + 1, by omega, by omega, ?_⟩
                rw [hst]
                clear hst c0
                (apply Ghost.mk [] []; (case hdead => rfl); (case hinj => rfl); (case hV => (simp only [go_sem, *]) <;> (repeat' (first | refine And.intro ?_ ?_ | exact View.int (by first | rfl | omega | (simp; done) | (rw [wrap_i64] <;> (try simp only [Int.natCast_add]) <;> omega) | (simp [*]; done)) | exact .bp rfl (by decide)))); (case hB => (simp only [go_sem, *]) <;> (repeat' (first | refine And.intro ?_ ?_ | exact ⟨_, rfl, BView.map1 rfl (by decide)⟩ | exact ⟨_, rfl, BView.mapE (by first | rfl | omega | (simp; done) | (rw [wrap_i64] <;> (try simp only [Int.natCast_add]) <;> omega) | (simp [*]; done)) (by first | rfl | omega | (simp; done) | (rw [wrap_i64] <;> (try simp only [Int.natCast_add]) <;> omega) | (simp [*]; done))⟩))))
              · rw [hB] at hst c0
                simp only [if_true] at hst
                repeat' (first
 | (apply Awp.sreg; (case hn => (simp only [List.length_cons, List.length_nil, Nat.reduceAdd] <;> rfl)))
 | (refine st_nil ?_)
 | (apply st_a; (case hc => rfl); (case he => (simp only [go_sem, *] <;> rfl)); (case hu => (simp only [updL_nil, updL_cons] <;> rfl)); (case hp => first | trivial | omega))
 | (apply st_cd; (case hc => (simp only [go_sem, *] <;> rfl)); (case hl => (simp only [go_sem, *] <;> rfl)); (case hn => (simp only [go_sem, *] <;> rfl)); (case hp => first | exact c0 | (have hXz := c0; simp only [go_sem, *] at hXz; exact hXz)); (case hd => first | exact .v _ | exact .any | exact .nils | (repeat' (first | exact Dry.v _ | exact Dry.any | exact Dry.nils | exact Dry.slE | refine Dry.agg ?_ | refine Dry.tup ?_ | (refine List.forall_mem_cons.2 (And.intro ?_ ?_)) | (intro cQ hQ; cases hQ; done)))); (case hm => first | decide | (simp; done)))
 | (apply Awp.reg; (case hn => (simp only [List.length_cons, List.length_nil, Nat.reduceAdd] <;> rfl)))
 | (refine Awp.skip ?_; try simp only [go_sem, *])
 | refine Awp.block ?_
 | (apply Awp.cond; (case hc => (simp only [go_sem, *] <;> rfl)); all_goals (intro hg; (try simp only [Bool.not_true, Bool.not_false, reduceCtorEq] at hg)))
 | refine Awp.seq ?_)
                refine ⟨i + 1, by omega, by omega, ?_⟩
                rw [hst]
                clear hst c0
                (apply Ghost.mk [] []; (case hdead => rfl); (case hinj => rfl); (case hV => (simp only [go_sem, *]) <;> (repeat' (first | refine And.intro ?_ ?_ | exact View.int (by first | rfl | omega | (simp; done) | (rw [wrap_i64] <;> (try simp only [Int.natCast_add]) <;> omega) | (simp [*]; done)) | exact .bp rfl (by decide)))); (case hB => (simp only [go_sem, *]) <;> (repeat' (first | refine And.intro ?_ ?_ | exact ⟨_, rfl, BView.map1 rfl (by decide)⟩ | exact ⟨_, rfl, BView.mapE (by first | rfl | omega | (simp; done) | (rw [wrap_i64] <;> (try simp only [Int.natCast_add]) <;> omega) | (simp [*]; done)) (by first | rfl | omega | (simp; done) | (rw [wrap_i64] <;> (try simp only [Int.natCast_add]) <;> omega) | (simp [*]; done))⟩))))
            · have hlt' : ¬ (i : Int) < l.length := by omega
              have e1 : l.take i = l := List.take_of_length_le (by omega)
              rw [e1]
              clear haf e1 hlt hi
              generalize rnd l K = R at *
              by_cases he : R.length = K.length
              · rw [if_pos he] at hK
                have he' : ((R.length : Int) == K.length) = true := by rw [beq_iff_eq]; omega
                have hK' : passE l = false := hK.symm
                clear he hK
                repeat' (first
 | (apply Awp.sreg; (case hn => (simp only [List.length_cons, List.length_nil, Nat.reduceAdd] <;> rfl)))
 | (refine st_nil ?_)
 | (apply st_a; (case hc => rfl); (case he => (simp only [go_sem, *] <;> rfl)); (case hu => (simp only [updL_nil, updL_cons] <;> rfl)); (case hp => first | trivial))
 | (refine Awp.ret ?_; try simp only [go_sem, *])
 | (refine Awp.exit ?_; try simp only [go_sem, *])
 | (apply Awp.cond; (case hc => (simp only [go_sem, *] <;> rfl)); all_goals (intro hg; (try simp only [Bool.not_true, Bool.not_false, reduceCtorEq] at hg)))
 | refine Awp.seq ?_)
                all_goals repeat' (first | exact Lower.bool (by first | rfl | (simp only [true_and, Bool.true_and, Bool.false_and, Bool.and_true, Bool.and_false, Bool.true_or, Bool.false_or, reduceIte, Bool.false_eq_true, *]; done) | (simp only [true_and, reduceIte, Bool.false_eq_true, *] <;> rfl) | (simp [true_and]; done) | (simp_all [true_and]; done) | omega))
              · rw [if_neg he] at hK
                have he' : ((R.length : Int) == K.length) = false := by rw [beq_eq_false_iff_ne]; omega
                have hRl : R.length < K.length := by omega
                have hK' : Hid (passF l R.length R = passE l) := hK
                clear he hK
                repeat' (first
 | (apply Awp.sreg; (case hn => (simp only [List.length_cons, List.length_nil, Nat.reduceAdd] <;> rfl)))
 | (refine st_nil ?_)
 | (apply st_a; (case hc => rfl); (case he => (simp only [go_sem, *] <;> rfl)); (case hu => (simp only [updL_nil, updL_cons] <;> rfl)); (case hp => first | trivial))
 | (refine Awp.skip ?_; try simp only [go_sem, *])
 | (refine Awp.exit ?_; try simp only [go_sem, *])
 | (apply Awp.cond; (case hc => (simp only [go_sem, *] <;> rfl)); all_goals (intro hg; (try simp only [Bool.not_true, Bool.not_false, reduceCtorEq] at hg)))
 | refine Awp.seq ?_)
                refine ⟨R, ⟨by omega, hK'⟩, hRl, ?_⟩
                clear hK'
                (apply Ghost.mk [] []; (case hdead => rfl); (case hinj => rfl); (case hV => (simp only [go_sem, *]) <;> (repeat' (first | exact .bp rfl (by decide)))); (case hB => (simp only [go_sem, *]) <;> (repeat' (first | refine And.intro ?_ ?_ | exact ⟨_, rfl, BView.map1 rfl (by decide)⟩ | exact ⟨_, rfl, BView.mapE (by first | rfl | omega | (simp; done) | (rw [wrap_i64] <;> (try simp only [Int.natCast_add]) <;> omega) | (simp [*]; done)) (by first | rfl | omega | (simp; done) | (rw [wrap_i64] <;> (try simp only [Int.natCast_add]) <;> omega) | (simp [*]; done))⟩))))
end Go.Proofs
end
section
set_option linter.unusedVariables false
set_option linter.unusedSimpArgs false
namespace Go.Proofs
open Go Go.Ab
theorem strLess_iff (a b : ByteArray) : strLess a b = true ↔ a.toList < b.toList := by
  unfold strLess
  rw [bytesLess_eq]
  simp
theorem strLess_irrefl (a : ByteArray) : strLess a a = false := by
  rw [Bool.eq_false_iff]
  intro h
  rw [strLess_iff] at h
  exact List.lt_irrefl _ h
theorem strLess_trans {a b c : ByteArray} (h : strLess a b = true) (k : strLess b c = true) : strLess a c = true := by
  rw [strLess_iff] at *
  exact List.lt_trans h k
end Go.Proofs
end
section
set_option linter.unusedVariables false
set_option linter.unusedSimpArgs false
namespace Go.Proofs
open Go Go.Ab
set_option maxHeartbeats 8000000
set_option maxRecDepth 100000
attribute [local irreducible] Awp aops aopsL Go.Ab.Pure PureOwn

def firstE (f : Nat → Int) (n : Nat) : Int := match (List.range n).find? (fun i => f i != 0) with
  | some i => f i
  | none => 0
theorem firstE_bad {f : Nat → Int} {n i : Nat} (hi : i < n) (h : f i ≠ 0) (hj : ∀ j, j < i → f j = 0) : firstE f n = f i := by
  have e : (List.range n).find? (fun i => f i != 0) = some i := by
    rw [List.find?_eq_some_iff_getElem]
    refine ⟨by simpa using h, i, by simpa using hi, by simp, fun j hji => ?_⟩
    have := hj j hji
    simp [this]
  unfold firstE
  rw [e]
theorem firstE_end {f : Nat → Int} {n i : Nat} (hi : n ≤ i) (hj : ∀ j, j < i → f j = 0) : firstE f n = 0 := by
  have e : (List.range n).find? (fun i => f i != 0) = none := by
    rw [List.find?_eq_none]
    intro j hjn
    have := hj j (by have := List.mem_range.1 hjn; omega)
    simp [this]
  unfold firstE
  rw [e]
theorem firstE_zero (f : Nat → Int) (n : Nat) : firstE f n = 0 ↔ ∀ i, i < n → f i = 0 := by
  constructor
  · intro h i hi
    unfold firstE at h
    cases hf : (List.range n).find? (fun i => f i != 0) with
    | none =>
      rw [List.find?_eq_none] at hf
      have := hf i (List.mem_range.2 hi)
      simpa using this
    | some j =>
      rw [hf] at h
      have := List.find?_some hf
      simp only [bne_iff_ne, ne_eq] at this
      exact absurd h this
  · intro h
    exact firstE_end (Nat.le_refl n) fun j hj => h j hj

theorem pred_wrap {i : Nat} (h0 : 0 < i) (h : i < 1000000) : IntKind.i64.wrap ((i : Int) - 1) = ((i - 1 : Nat) : Int) := by
  rw [wrap_i64 (by omega) (by omega)]; omega

def prevT (l : List Te) (i : Nat) : Bool := decide (0 < i) && leS (l.getD i zeroTe).id (l.getD (i - 1) zeroTe).id
def chk1 (l : List Te) (i : Nat) : Int := if !idB (l.getD i zeroTe).id then 6 else if prevT l i then 11 else if !ascB (l.getD i zeroTe).af then 11 else 0
def chk2k (l : List Te) (q : Te) (k : Nat) : Int := if (q.af.getD k zeroB).toList == q.id.toList then 2 else if findE l (q.af.getD k zeroB) < 0 then 8 else 0
def chk2 (l : List Te) (i : Nat) : Int := firstE (chk2k l (l.getD i zeroTe)) (l.getD i zeroTe).af.length
def chkT (l : List Te) : Int := if 64 < l.length then 4 else if firstE (chk1 l) l.length ≠ 0 then firstE (chk1 l) l.length else if firstE (chk2 l) l.length ≠ 0 then firstE (chk2 l) l.length else if !passE l then 20 else 0
theorem lex_tri (l m : List UInt8) : l < m ∨ l = m ∨ m < l := by
  by_cases h : l < m
  · exact .inl h
  · by_cases k : m < l
    · exact .inr (.inr k)
    · exact .inr (.inl (List.le_antisymm (List.not_lt.1 k) (List.not_lt.1 h)))
theorem leS_no {a b : ByteArray} (h : leS a b = false) : strLess b a = true := by
  unfold leS at h
  rw [Bool.or_eq_false_iff] at h
  rw [strLess_iff]
  rcases lex_tri b.toList a.toList with k | k | k
  · exact k
  · rw [k] at h; simp at h
  · rw [← strLess_iff, h.1] at k; cases k
theorem chk1_zero {l : List Te} (h : firstE (chk1 l) l.length = 0) : ∀ i, i < l.length → idB (l.getD i zeroTe).id = true ∧ prevT l i = false ∧ ascB (l.getD i zeroTe).af = true := by
  rw [firstE_zero] at h
  intro i hi
  have h1 := h i hi
  unfold chk1 at h1
  cases h2 : idB (l.getD i zeroTe).id
  · rw [h2, if_pos (by decide)] at h1; cases h1
  rw [h2, if_neg (by decide)] at h1
  cases h3 : prevT l i
  case true => rw [h3, if_pos rfl] at h1; cases h1
  rw [h3, if_neg (by decide)] at h1
  cases h4 : ascB (l.getD i zeroTe).af
  · rw [h4, if_pos (by decide)] at h1; cases h1
  exact ⟨rfl, rfl, rfl⟩
theorem ids_lt {l : List Te} (h : firstE (chk1 l) l.length = 0) : ∀ i j, i < j → j < l.length → strLess (l.getD i zeroTe).id (l.getD j zeroTe).id = true := by
  have hz := chk1_zero h
  have hst : ∀ i, i + 1 < l.length → strLess (l.getD i zeroTe).id (l.getD (i + 1) zeroTe).id = true := fun i hi => by
    have := (hz (i + 1) hi).2.1
    unfold prevT at this
    rw [Nat.add_sub_cancel, decide_eq_true (Nat.succ_pos i), Bool.true_and] at this
    exact leS_no this
  intro i j hij
  obtain ⟨d, rfl⟩ : ∃ d, j = i + 1 + d := ⟨j - (i + 1), by omega⟩
  induction d with
  | zero => exact hst i
  | succ d ih => intro hd; exact strLess_trans (ih (by omega) (by omega)) (hst (i + 1 + d) hd)
theorem str_ne {a b : ByteArray} (h : strLess a b = true) : (b.toList == a.toList) = false := by
  rw [Bool.eq_false_iff]
  intro k
  rw [beq_iff_eq] at k
  rw [strLess_iff, k] at h
  exact List.lt_irrefl _ h
theorem dist_of {l : List Te} (h : firstE (chk1 l) l.length = 0) : DistT l := fun i hi => by
  unfold hasK idsT
  rw [List.any_eq_false]
  intro x hx
  obtain ⟨q, hq, rfl⟩ := List.mem_map.1 hx
  obtain ⟨j, hj, rfl⟩ := List.getElem_of_mem hq
  have hji : j < i := by rw [List.length_take] at hj; omega
  rw [List.getElem_take]
  have := str_ne (ids_lt h j i hji hi)
  rw [getD_get l zeroTe j (by omega)] at this
  rw [this]; simp
theorem checkT_ok (l : List Te) (hl : l.length < 10000) (haf : ∀ i, i < l.length → (l.getD i zeroTe).af.length < 100000) : Pure Tryz.prog 23 [.sl (tes l)] (.v (.int .i64 (chkT l))) := by
  unfold chkT
  by_cases h64 : 64 < l.length
  · rw [if_pos h64]
    have h64' : (64 : Int) < l.length := by omega
    clear haf
    refine fn_pure Tryz.F23 (Nat.le_of_ble_eq_true rfl) ?_; unfold Tryz.ac23
    repeat' (first
 | (apply Awp.sreg; (case hn => (simp only [List.length_cons, List.length_nil, Nat.reduceAdd] <;> rfl)))
 | (refine st_nil ?_)
 | (apply st_a; (case hc => rfl); (case he => (simp only [go_sem, *] <;> rfl)); (case hu => (simp only [updL_nil, updL_cons] <;> rfl)); (case hp => first | trivial))
 | (refine Awp.ret ?_; try simp only [go_sem, *])
 | (apply Awp.cond; (case hc => (simp only [go_sem, *] <;> rfl)); all_goals (intro hg; (try simp only [Bool.not_true, Bool.not_false, reduceCtorEq] at hg)))
 | refine Awp.seq ?_)
    all_goals repeat' (first | exact Lower.int (by first | rfl | (simp only [true_and, Bool.true_and, Bool.false_and, Bool.and_true, Bool.and_false, Bool.true_or, Bool.false_or, reduceIte, Bool.false_eq_true, *]; done) | (simp only [true_and, reduceIte, Bool.false_eq_true, *] <;> rfl) | (simp [true_and]; done) | (simp_all [true_and]; done) | omega))
  rw [if_neg h64]
  have h64' : ¬ (64 : Int) < l.length := by omega
  have hpass := fun h => passable_ok l hl haf (dist_of h)
  refine fn_pure Tryz.F23 (Nat.le_of_ble_eq_true rfl) ?_; unfold Tryz.ac23
  repeat' (first
 | (apply Awp.sreg; (case hn => (simp only [List.length_cons, List.length_nil, Nat.reduceAdd] <;> rfl)))
 | (refine st_nil ?_)
 | (apply st_a; (case hc => rfl); (case he => (simp only [go_sem, *] <;> rfl)); (case hu => (simp only [updL_nil, updL_cons] <;> rfl)); (case hp => first | trivial))
 | (refine Awp.skip ?_; try simp only [go_sem, *])
 | refine Awp.block ?_
 | (apply Awp.cond; (case hc => (simp only [go_sem, *] <;> rfl)); all_goals (intro hg; (try simp only [Bool.not_true, Bool.not_false, reduceCtorEq] at hg)))
 | refine Awp.seq ?_)
  refine Awp.loop (fun i : Nat => i ≤ l.length ∧ ∀ j, j < i → chk1 l j = 0) 60 (fun i => mkS [(0, .sl (tes l)), (12, .sl (tes l)), (13, .v (.int .i64 l.length)), (14, .v (.int .i64 i))] []) (fun i => l.length - i) 0 (by simp) ?_ ?_
  · clear haf hpass
    (apply Ghost.mk [] []; (case hdead => rfl); (case hinj => rfl); (case hV => (simp only [go_sem, *]) <;> (repeat' (first | exact View.int (by first | rfl | omega | (simp; done) | (rw [wrap_i64] <;> (try simp only [Int.natCast_add]) <;> omega) | (simp [*]; done))))); (case hB => (simp only [go_sem, *]) <;> (repeat' (first | skip; done))))
  · intro i ⟨hi, hj⟩
    by_cases hlt : i < l.length
    · have hlt' : (i : Int) < l.length := by omega
      have hat := tes_at l i hlt
      have hz : ((l.getD i zeroTe).cells).length = 3 := rfl
      have c0 := isid_ok (l.getD i zeroTe).id
      have hbad : ∀ {e : Int}, chk1 l i = e → e ≠ 0 → firstE (chk1 l) l.length = e := fun h he => by
        rw [← h, firstE_bad hlt (by rw [h]; exact he) hj]
      have hs : chk1 l i = if !idB (l.getD i zeroTe).id then 6 else if prevT l i then 11 else if !ascB (l.getD i zeroTe).af then 11 else 0 := rfl
      have ho : prevT l i = (decide (0 < i) && leS (l.getD i zeroTe).id (l.getD (i - 1) zeroTe).id) := rfl
      have c1 := asc_ok (l.getD i zeroTe).af (by have := haf i hlt; omega)
      have hafi := haf i hlt
      clear haf hpass
      cases h1 : idB (l.getD i zeroTe).id
      · rw [h1] at hs c0
        have hf := hbad (e := 6) (by rw [hs]; rfl) (by decide)
        rw [hf, if_pos (by decide)]
        clear hbad hs ho hj hf
        repeat' (first
 | (apply Awp.sreg; (case hn => (simp only [List.length_cons, List.length_nil, Nat.reduceAdd] <;> rfl)))
 | (refine st_nil ?_)
 | (apply st_a; (case hc => rfl); (case he => (simp only [go_sem, *] <;> rfl)); (case hu => (simp only [updL_nil, updL_cons] <;> rfl)); (case hp => first | trivial | omega))
 | (apply st_c; (case hc => (simp only [go_sem, *] <;> rfl)); (case hl => (simp only [go_sem, *] <;> rfl)); (case hn => (simp only [go_sem, *] <;> rfl)); (case hp => first | exact c0 | (have hXz := c0; simp only [go_sem, *] at hXz; exact hXz)))
 | (refine Awp.ret ?_; try simp only [go_sem, *])
 | (refine Awp.skip ?_; try simp only [go_sem, *])
 | refine Awp.block ?_
 | (apply Awp.cond; (case hc => (simp only [go_sem, *] <;> rfl)); all_goals (intro hg; (try simp only [Bool.not_true, Bool.not_false, reduceCtorEq] at hg)))
 | refine Awp.seq ?_)
        all_goals repeat' (first | exact Lower.int (by first | rfl | (simp only [true_and, Bool.true_and, Bool.false_and, Bool.and_true, Bool.and_false, Bool.true_or, Bool.false_or, reduceIte, Bool.false_eq_true, *]; done) | (simp only [true_and, reduceIte, Bool.false_eq_true, *] <;> rfl) | (simp [true_and]; done) | (simp_all [true_and]; done) | omega))
      rw [h1] at hs c0
      rw [if_neg (by decide)] at hs
      by_cases h0 : 0 < i
      · have hp : decide ((0 : Int) < (i : Int)) = true := decide_eq_true (by omega)
        have hw := pred_wrap h0 (by omega)
        have hatp := tes_at l (i - 1) (by omega)
        have hzp : ((l.getD (i - 1) zeroTe).cells).length = 3 := rfl
        have hlp : ((i - 1 : Nat) : Int) < l.length := by omega
        have hp0 : (0 : Int) ≤ ((i - 1 : Nat) : Int) := by omega
        rw [decide_eq_true h0, Bool.true_and] at ho
        cases h3 : leS (l.getD i zeroTe).id (l.getD (i - 1) zeroTe).id
        · rw [ho, h3, if_neg (by decide)] at hs
          cases h4 : ascB (l.getD i zeroTe).af
          · rw [h4] at hs c1
            have hf := hbad (e := 11) (by rw [hs]; rfl) (by decide)
            rw [hf, if_pos (by decide)]
            clear hbad hs ho hj hf
            unfold leS at h3
            repeat' (first
 | (apply Awp.sreg; (case hn => (simp only [List.length_cons, List.length_nil, Nat.reduceAdd] <;> rfl)))
 | (apply Awp.sdraw; (case hn => (simp only [List.length_cons, List.length_nil, Nat.reduceAdd] <;> rfl)))
 | (refine st_nil ?_)
 | (apply st_a; (case hc => rfl); (case he => (simp only [go_sem, *] <;> rfl)); (case hu => (simp only [updL_nil, updL_cons] <;> rfl)); (case hp => first | trivial | omega))
 | (apply st_c; (case hc => (simp only [go_sem, *] <;> rfl)); (case hl => (simp only [go_sem, *] <;> rfl)); (case hn => (simp only [go_sem, *] <;> rfl)); (case hp => first | exact c0 | (have hXz := c0; simp only [go_sem, *] at hXz; exact hXz)))
 | (refine Awp.ret ?_; try simp only [go_sem, *])
 | (refine Awp.skip ?_; try simp only [go_sem, *])
 | refine Awp.block ?_
 | (apply Awp.cond; (case hc => (simp only [go_sem, *] <;> rfl)); all_goals (intro hg; (try simp only [Bool.not_true, Bool.not_false, reduceCtorEq] at hg)))
 | refine Awp.seq ?_
 | (apply sl_a; (case hc => rfl); (case he => (simp only [go_sem, *] <;> rfl)); (case hu => (simp only [updL_nil, updL_cons] <;> rfl)); (case hl => (simp only [List.map_cons, List.map_nil] <;> rfl)); (case hp => first | trivial))
 | (apply sl_ga; (case hb => rfl); (case hv => (simp only [go_sem, *] <;> rfl)); (case he => (simp only [go_sem, *] <;> rfl)); (case hu => (simp only [updL_nil, updL_cons] <;> rfl)); (case hl => (simp only [List.map_cons, List.map_nil] <;> rfl)); (case hp => first | trivial))
 | (apply sl_cg; (case hop => rfl); (case hv => (simp only [go_sem, *] <;> rfl)); (case hc => (simp only [go_sem, *] <;> rfl)); (case hl => (simp only [go_sem, *] <;> rfl)); (case hn => (simp only [go_sem, *] <;> rfl)); (case hp => first | exact c1 | (have hXz := c1; simp only [go_sem, *] at hXz; exact hXz)); (case hd => first | exact .inl rfl | exact .inr (.v _) | exact .inr .any | exact .inr .nils); (case hm => first | decide | (simp; done)))
 | (refine sl_nil (And.intro (by first | exact drawOk_of (by decide +kernel) | (simp only [List.map_cons, List.map_nil]; exact drawOk_of (by decide +kernel)) | decide) ?_)))
            all_goals (try (exfalso; simp only [Bool.or_true, Bool.true_or, Bool.or_false, Bool.false_or, Bool.and_true, Bool.true_and, Bool.and_false, Bool.false_and, reduceCtorEq, *] at h3; done))
            all_goals repeat' (first | exact Lower.int (by first | rfl | (simp only [true_and, Bool.true_and, Bool.false_and, Bool.and_true, Bool.and_false, Bool.true_or, Bool.false_or, reduceIte, Bool.false_eq_true, *]; done) | (simp only [true_and, reduceIte, Bool.false_eq_true, *] <;> rfl) | (simp [true_and]; done) | (simp_all [true_and]; done) | omega))
          · rw [h4] at hs c1
            have hnx := ltSucc hj hs
            clear hbad hs ho hj
            unfold leS at h3
            repeat' (first
 | (apply Awp.sreg; (case hn => (simp only [List.length_cons, List.length_nil, Nat.reduceAdd] <;> rfl)))
 | (apply Awp.sdraw; (case hn => (simp only [List.length_cons, List.length_nil, Nat.reduceAdd] <;> rfl)))
 | (refine st_nil ?_)
 | (apply st_a; (case hc => rfl); (case he => (simp only [go_sem, *] <;> rfl)); (case hu => (simp only [updL_nil, updL_cons] <;> rfl)); (case hp => first | trivial | omega))
 | (apply st_c; (case hc => (simp only [go_sem, *] <;> rfl)); (case hl => (simp only [go_sem, *] <;> rfl)); (case hn => (simp only [go_sem, *] <;> rfl)); (case hp => first | exact c0 | (have hXz := c0; simp only [go_sem, *] at hXz; exact hXz)))
 | (apply Awp.reg; (case hn => (simp only [List.length_cons, List.length_nil, Nat.reduceAdd] <;> rfl)))
 | (refine Awp.skip ?_; try simp only [go_sem, *])
 | refine Awp.block ?_
 | (apply Awp.cond; (case hc => (simp only [go_sem, *] <;> rfl)); all_goals (intro hg; (try simp only [Bool.not_true, Bool.not_false, reduceCtorEq] at hg)))
 | refine Awp.seq ?_
 | (apply sl_a; (case hc => rfl); (case he => (simp only [go_sem, *] <;> rfl)); (case hu => (simp only [updL_nil, updL_cons] <;> rfl)); (case hl => (simp only [List.map_cons, List.map_nil] <;> rfl)); (case hp => first | trivial))
 | (apply sl_ga; (case hb => rfl); (case hv => (simp only [go_sem, *] <;> rfl)); (case he => (simp only [go_sem, *] <;> rfl)); (case hu => (simp only [updL_nil, updL_cons] <;> rfl)); (case hl => (simp only [List.map_cons, List.map_nil] <;> rfl)); (case hp => first | trivial))
 | (apply sl_cg; (case hop => rfl); (case hv => (simp only [go_sem, *] <;> rfl)); (case hc => (simp only [go_sem, *] <;> rfl)); (case hl => (simp only [go_sem, *] <;> rfl)); (case hn => (simp only [go_sem, *] <;> rfl)); (case hp => first | exact c1 | (have hXz := c1; simp only [go_sem, *] at hXz; exact hXz)); (case hd => first | exact .inl rfl | exact .inr (.v _) | exact .inr .any | exact .inr .nils); (case hm => first | decide | (simp; done)))
 | (refine sl_nil (And.intro (by first | exact drawOk_of (by decide +kernel) | (simp only [List.map_cons, List.map_nil]; exact drawOk_of (by decide +kernel)) | decide) ?_)))
            all_goals (try (exfalso; simp only [Bool.or_true, Bool.true_or, Bool.or_false, Bool.false_or, Bool.and_true, Bool.true_and, Bool.and_false, Bool.false_and, reduceCtorEq, *] at h3; done))
            all_goals (refine ⟨i + 1, ⟨by omega, hnx⟩, by omega, ?_⟩; clear hnx c0 c1; (apply Ghost.mk [] []; (case hdead => rfl); (case hinj => rfl); (case hV => (simp only [go_sem, *]) <;> (repeat' (first | exact View.int (by first | rfl | omega | (simp; done) | (rw [wrap_i64] <;> (try simp only [Int.natCast_add]) <;> omega) | (simp [*]; done))))); (case hB => (simp only [go_sem, *]) <;> (repeat' (first | skip; done)))))
        · rw [ho, h3] at hs
          have hf := hbad (e := 11) (by rw [hs]; rfl) (by decide)
          rw [hf, if_pos (by decide)]
          clear hbad hs ho hj hf
          unfold leS at h3
          repeat' (first
 | (apply Awp.sreg; (case hn => (simp only [List.length_cons, List.length_nil, Nat.reduceAdd] <;> rfl)))
 | (apply Awp.sdraw; (case hn => (simp only [List.length_cons, List.length_nil, Nat.reduceAdd] <;> rfl)))
 | (refine st_nil ?_)
 | (apply st_a; (case hc => rfl); (case he => (simp only [go_sem, *] <;> rfl)); (case hu => (simp only [updL_nil, updL_cons] <;> rfl)); (case hp => first | trivial | omega))
 | (apply st_c; (case hc => (simp only [go_sem, *] <;> rfl)); (case hl => (simp only [go_sem, *] <;> rfl)); (case hn => (simp only [go_sem, *] <;> rfl)); (case hp => first | exact c0 | (have hXz := c0; simp only [go_sem, *] at hXz; exact hXz)))
 | (refine Awp.ret ?_; try simp only [go_sem, *])
 | (refine Awp.skip ?_; try simp only [go_sem, *])
 | refine Awp.block ?_
 | (apply Awp.cond; (case hc => (simp only [go_sem, *] <;> rfl)); all_goals (intro hg; (try simp only [Bool.not_true, Bool.not_false, reduceCtorEq] at hg)))
 | refine Awp.seq ?_
 | (apply sl_a; (case hc => rfl); (case he => (simp only [go_sem, *] <;> rfl)); (case hu => (simp only [updL_nil, updL_cons] <;> rfl)); (case hl => (simp only [List.map_cons, List.map_nil] <;> rfl)); (case hp => first | trivial))
 | (apply sl_gn; (case hv => (simp only [go_sem, *] <;> rfl)); (case hbw => rfl))
 | (apply sl_ga; (case hb => rfl); (case hv => (simp only [go_sem, *] <;> rfl)); (case he => (simp only [go_sem, *] <;> rfl)); (case hu => (simp only [updL_nil, updL_cons] <;> rfl)); (case hl => (simp only [List.map_cons, List.map_nil] <;> rfl)); (case hp => first | trivial))
 | (refine sl_nil (And.intro (by first | exact drawOk_of (by decide +kernel) | (simp only [List.map_cons, List.map_nil]; exact drawOk_of (by decide +kernel)) | decide) ?_)))
          all_goals (try (exfalso; simp only [Bool.or_true, Bool.true_or, Bool.or_false, Bool.false_or, Bool.and_true, Bool.true_and, Bool.and_false, Bool.false_and, reduceCtorEq, *] at h3; done))
          all_goals repeat' (first | exact Lower.int (by first | rfl | (simp only [true_and, Bool.true_and, Bool.false_and, Bool.and_true, Bool.and_false, Bool.true_or, Bool.false_or, reduceIte, Bool.false_eq_true, *]; done) | (simp only [true_and, reduceIte, Bool.false_eq_true, *] <;> rfl) | (simp [true_and]; done) | (simp_all [true_and]; done) | omega))
      · have hp : decide ((0 : Int) < (i : Int)) = false := decide_eq_false (by omega)
        rw [decide_eq_false h0, Bool.false_and] at ho
        rw [ho, if_neg (by decide)] at hs
        cases h4 : ascB (l.getD i zeroTe).af
        · rw [h4] at hs c1
          have hf := hbad (e := 11) (by rw [hs]; rfl) (by decide)
          rw [hf, if_pos (by decide)]
          clear hbad hs ho hj hf
          repeat' (first
 | (apply Awp.sreg; (case hn => (simp only [List.length_cons, List.length_nil, Nat.reduceAdd] <;> rfl)))
 | (apply Awp.sdraw; (case hn => (simp only [List.length_cons, List.length_nil, Nat.reduceAdd] <;> rfl)))
 | (refine st_nil ?_)
 | (apply st_a; (case hc => rfl); (case he => (simp only [go_sem, *] <;> rfl)); (case hu => (simp only [updL_nil, updL_cons] <;> rfl)); (case hp => first | trivial | omega))
 | (apply st_c; (case hc => (simp only [go_sem, *] <;> rfl)); (case hl => (simp only [go_sem, *] <;> rfl)); (case hn => (simp only [go_sem, *] <;> rfl)); (case hp => first | exact c0 | (have hXz := c0; simp only [go_sem, *] at hXz; exact hXz)))
 | (refine Awp.ret ?_; try simp only [go_sem, *])
 | (refine Awp.skip ?_; try simp only [go_sem, *])
 | refine Awp.block ?_
 | (apply Awp.cond; (case hc => (simp only [go_sem, *] <;> rfl)); all_goals (intro hg; (try simp only [Bool.not_true, Bool.not_false, reduceCtorEq] at hg)))
 | refine Awp.seq ?_
 | (apply sl_a; (case hc => rfl); (case he => (simp only [go_sem, *] <;> rfl)); (case hu => (simp only [updL_nil, updL_cons] <;> rfl)); (case hl => (simp only [List.map_cons, List.map_nil] <;> rfl)); (case hp => first | trivial))
 | (apply sl_gn; (case hv => (simp only [go_sem, *] <;> rfl)); (case hbw => rfl))
 | (apply sl_ga; (case hb => rfl); (case hv => (simp only [go_sem, *] <;> rfl)); (case he => (simp only [go_sem, *] <;> rfl)); (case hu => (simp only [updL_nil, updL_cons] <;> rfl)); (case hl => (simp only [List.map_cons, List.map_nil] <;> rfl)); (case hp => first | trivial))
 | (apply sl_cg; (case hop => rfl); (case hv => (simp only [go_sem, *] <;> rfl)); (case hc => (simp only [go_sem, *] <;> rfl)); (case hl => (simp only [go_sem, *] <;> rfl)); (case hn => (simp only [go_sem, *] <;> rfl)); (case hp => first | exact c1 | (have hXz := c1; simp only [go_sem, *] at hXz; exact hXz)); (case hd => first | exact .inl rfl | exact .inr (.v _) | exact .inr .any | exact .inr .nils); (case hm => first | decide | (simp; done)))
 | (refine sl_nil (And.intro (by first | exact drawOk_of (by decide +kernel) | (simp only [List.map_cons, List.map_nil]; exact drawOk_of (by decide +kernel)) | decide) ?_)))
          all_goals repeat' (first | exact Lower.int (by first | rfl | (simp only [true_and, Bool.true_and, Bool.false_and, Bool.and_true, Bool.and_false, Bool.true_or, Bool.false_or, reduceIte, Bool.false_eq_true, *]; done) | (simp only [true_and, reduceIte, Bool.false_eq_true, *] <;> rfl) | (simp [true_and]; done) | (simp_all [true_and]; done) | omega))
        · rw [h4] at hs c1
          have hnx := ltSucc hj hs
          clear hbad hs ho hj
          repeat' (first
 | (apply Awp.sreg; (case hn => (simp only [List.length_cons, List.length_nil, Nat.reduceAdd] <;> rfl)))
 | (apply Awp.sdraw; (case hn => (simp only [List.length_cons, List.length_nil, Nat.reduceAdd] <;> rfl)))
 | (refine st_nil ?_)
 | (apply st_a; (case hc => rfl); (case he => (simp only [go_sem, *] <;> rfl)); (case hu => (simp only [updL_nil, updL_cons] <;> rfl)); (case hp => first | trivial | omega))
 | (apply st_c; (case hc => (simp only [go_sem, *] <;> rfl)); (case hl => (simp only [go_sem, *] <;> rfl)); (case hn => (simp only [go_sem, *] <;> rfl)); (case hp => first | exact c0 | (have hXz := c0; simp only [go_sem, *] at hXz; exact hXz)))
 | (apply Awp.reg; (case hn => (simp only [List.length_cons, List.length_nil, Nat.reduceAdd] <;> rfl)))
 | (refine Awp.skip ?_; try simp only [go_sem, *])
 | refine Awp.block ?_
 | (apply Awp.cond; (case hc => (simp only [go_sem, *] <;> rfl)); all_goals (intro hg; (try simp only [Bool.not_true, Bool.not_false, reduceCtorEq] at hg)))
 | refine Awp.seq ?_
 | (apply sl_a; (case hc => rfl); (case he => (simp only [go_sem, *] <;> rfl)); (case hu => (simp only [updL_nil, updL_cons] <;> rfl)); (case hl => (simp only [List.map_cons, List.map_nil] <;> rfl)); (case hp => first | trivial))
 | (apply sl_gn; (case hv => (simp only [go_sem, *] <;> rfl)); (case hbw => rfl))
 | (apply sl_ga; (case hb => rfl); (case hv => (simp only [go_sem, *] <;> rfl)); (case he => (simp only [go_sem, *] <;> rfl)); (case hu => (simp only [updL_nil, updL_cons] <;> rfl)); (case hl => (simp only [List.map_cons, List.map_nil] <;> rfl)); (case hp => first | trivial))
 | (apply sl_cg; (case hop => rfl); (case hv => (simp only [go_sem, *] <;> rfl)); (case hc => (simp only [go_sem, *] <;> rfl)); (case hl => (simp only [go_sem, *] <;> rfl)); (case hn => (simp only [go_sem, *] <;> rfl)); (case hp => first | exact c1 | (have hXz := c1; simp only [go_sem, *] at hXz; exact hXz)); (case hd => first | exact .inl rfl | exact .inr (.v _) | exact .inr .any | exact .inr .nils); (case hm => first | decide | (simp; done)))
 | (refine sl_nil (And.intro (by first | exact drawOk_of (by decide +kernel) | (simp only [List.map_cons, List.map_nil]; exact drawOk_of (by decide +kernel)) | decide) ?_)))
          all_goals (refine ⟨i + 1, ⟨by omega, hnx⟩, by omega, ?_⟩; clear hnx c0 c1; (apply Ghost.mk [] []; (case hdead => rfl); (case hinj => rfl); (case hV => (simp only [go_sem, *]) <;> (repeat' (first | exact View.int (by first | rfl | omega | (simp; done) | (rw [wrap_i64] <;> (try simp only [Int.natCast_add]) <;> omega) | (simp [*]; done))))); (case hB => (simp only [go_sem, *]) <;> (repeat' (first | skip; done)))))
    · have hlt' : ¬ (i : Int) < l.length := by omega
      have hf := firstE_end (Nat.le_of_not_lt hlt) hj
      have hpass := hpass hf
      rw [hf, if_neg (by decide)]
      clear hj hf hlt hi
      repeat' (first
 | (apply Awp.sreg; (case hn => (simp only [List.length_cons, List.length_nil, Nat.reduceAdd] <;> rfl)))
 | (refine st_nil ?_)
 | (apply st_a; (case hc => rfl); (case he => (simp only [go_sem, *] <;> rfl)); (case hu => (simp only [updL_nil, updL_cons] <;> rfl)); (case hp => first | trivial))
 | (refine Awp.exit ?_; try simp only [go_sem, *])
 | refine Awp.block ?_
 | (apply Awp.cond; (case hc => (simp only [go_sem, *] <;> rfl)); all_goals (intro hg; (try simp only [Bool.not_true, Bool.not_false, reduceCtorEq] at hg)))
 | refine Awp.seq ?_)
      refine Awp.loop (fun i : Nat => i ≤ l.length ∧ ∀ j, j < i → chk2 l j = 0) 80 (fun i => mkS [(0, .sl (tes l)), (43, .sl (tes l)), (44, .v (.int .i64 l.length)), (45, .v (.int .i64 i))] []) (fun i => l.length - i) 0 (by simp) ?_ ?_
      · clear haf hpass
        (apply Ghost.mk [] []; (case hdead => rfl); (case hinj => rfl); (case hV => (simp only [go_sem, *]) <;> (repeat' (first | exact View.int (by first | rfl | omega | (simp; done) | (rw [wrap_i64] <;> (try simp only [Int.natCast_add]) <;> omega) | (simp [*]; done))))); (case hB => (simp only [go_sem, *]) <;> (repeat' (first | skip; done))))
      · intro i ⟨hi, hj⟩
        by_cases hlt : i < l.length
        · have hlt' : (i : Int) < l.length := by omega
          have hat := tes_at l i hlt
          have hz : ((l.getD i zeroTe).cells).length = 3 := rfl
          have hbad : ∀ {e : Int}, chk2 l i = e → e ≠ 0 → firstE (chk2 l) l.length = e := fun h he => by
            rw [← h, firstE_bad hlt (by rw [h]; exact he) hj]
          have hs : chk2 l i = firstE (chk2k l (l.getD i zeroTe)) (l.getD i zeroTe).af.length := rfl
          have hafi := haf i hlt
          have hnx := fun h => ltSucc (P := fun j => chk2 l j = 0) hj h
          clear haf hpass hj
          obtain ⟨q, hq⟩ : ∃ q, l.getD i zeroTe = q := ⟨_, rfl⟩
          rw [hq] at hat hz hs hafi
          have hln : (strs q.af).length = q.af.length := by simp [strs]
          have hbad' : Hid (∀ {e : Int}, chk2 l i = e → e ≠ 0 → firstE (chk2 l) l.length = e) := hbad
          have hs' : Hid (chk2 l i = firstE (chk2k l q) q.af.length) := hs
          have hnx' : Hid (chk2 l i = 0 → ∀ j, j < i + 1 → chk2 l j = 0) := hnx
          clear hbad hs hnx hq
          repeat' (first
 | (apply Awp.sreg; (case hn => (simp only [List.length_cons, List.length_nil, Nat.reduceAdd] <;> rfl)))
 | (refine st_nil ?_)
 | (apply st_a; (case hc => rfl); (case he => (simp only [go_sem, *] <;> rfl)); (case hu => (simp only [updL_nil, updL_cons] <;> rfl)); (case hp => first | trivial | omega))
 | (refine Awp.skip ?_; try simp only [go_sem, *])
 | refine Awp.block ?_
 | (apply Awp.cond; (case hc => (simp only [go_sem, *] <;> rfl)); all_goals (intro hg; (try simp only [Bool.not_true, Bool.not_false, reduceCtorEq] at hg)))
 | refine Awp.seq ?_)
          refine Awp.loop (fun k : Nat => k ≤ q.af.length ∧ ∀ j, j < k → chk2k l q j = 0) 90 (fun k => mkS [(0, .sl (tes l)), (6, .bp 0 0), (43, .sl (tes l)), (44, .v (.int .i64 l.length)), (45, .v (.int .i64 i)), (50, .sl (strs q.af)), (51, .v (.int .i64 q.af.length)), (52, .v (.int .i64 k))] [(0, .box q.cells)]) (fun k => q.af.length - k) 0 (by simp) ?_ ?_
          · clear hln
            (apply Ghost.mk [(0, 83)] []; (case hdead => rfl); (case hinj => rfl); (case hV => (simp only [go_sem, *]) <;> (repeat' (first | refine And.intro ?_ ?_ | exact View.int (by first | rfl | omega | (simp; done) | (rw [wrap_i64] <;> (try simp only [Int.natCast_add]) <;> omega) | (simp [*]; done)) | exact .bp rfl (by decide)))); (case hB => (simp only [go_sem, *]) <;> (repeat' (first | exact ⟨_, rfl, BView.boxF rfl⟩))))
          · intro k ⟨hk, hjk⟩
            by_cases hkl : k < q.af.length
            · have hkl' : (k : Int) < q.af.length := by omega
              have hatk := strs_at0 q.af k hkl
              have hbk : ∀ {e : Int}, chk2k l q k = e → e ≠ 0 → firstE (chk2 l) l.length = e := fun h he => by
                have h1 := firstE_bad (f := chk2k l q) hkl (by rw [h]; exact he) hjk
                have hb2 : ∀ {e : Int}, chk2 l i = e → e ≠ 0 → firstE (chk2 l) l.length = e := hbad'
                exact hb2 (by rw [show chk2 l i = firstE (chk2k l q) q.af.length from hs', h1, h]) he
              have hsk : chk2k l q k = if (q.af.getD k zeroB).toList == q.id.toList then 2 else if findE l (q.af.getD k zeroB) < 0 then 8 else 0 := rfl
              have c0 := find_ok l (q.af.getD k zeroB) (by omega)
              have hnk := fun h => ltSucc (P := fun j => chk2k l q j = 0) hjk h
              clear hjk
              generalize q.af.getD k zeroB = u at *
              cases h1 : (u.toList == q.id.toList)
              · rw [h1, if_neg (by decide)] at hsk
                by_cases h2 : findE l u < 0
                · rw [if_pos h2] at hsk
                  have hf := hbk (e := 8) hsk (by decide)
                  rw [hf, if_pos (by decide)]
                  clear hbk hsk hnk hf
                  generalize findE l u = F at *
                  repeat' (first
 | (apply Awp.sreg; (case hn => (simp only [List.length_cons, List.length_nil, Nat.reduceAdd] <;> rfl)))
 | (refine st_nil ?_)
 | (apply st_a; (case hc => rfl); (case he => (simp only [go_sem, *] <;> rfl)); (case hu => (simp only [updL_nil, updL_cons] <;> rfl)); (case hp => first | trivial | omega))
 | (apply st_c; (case hc => (simp only [go_sem, *] <;> rfl)); (case hl => (simp only [go_sem, *] <;> rfl)); (case hn => (simp only [go_sem, *] <;> rfl)); (case hp => first | exact c0 | (have hXz := c0; simp only [go_sem, *] at hXz; exact hXz)))
 | (refine Awp.ret ?_; try simp only [go_sem, *])
 | (refine Awp.skip ?_; try simp only [go_sem, *])
 | refine Awp.block ?_
 | (apply Awp.cond; (case hc => (simp only [go_sem, *] <;> rfl)); all_goals (intro hg; (try simp only [Bool.not_true, Bool.not_false, reduceCtorEq] at hg)))
 | refine Awp.seq ?_)
                  all_goals repeat' (first | exact Lower.int (by first | rfl | (simp only [true_and, Bool.true_and, Bool.false_and, Bool.and_true, Bool.and_false, Bool.true_or, Bool.false_or, reduceIte, Bool.false_eq_true, *]; done) | (simp only [true_and, reduceIte, Bool.false_eq_true, *] <;> rfl) | (simp [true_and]; done) | (simp_all [true_and]; done) | omega))
                · rw [if_neg h2] at hsk
                  have hnk := hnk hsk
                  clear hbk hsk
                  generalize findE l u = F at *
                  repeat' (first
 | (apply Awp.sreg; (case hn => (simp only [List.length_cons, List.length_nil, Nat.reduceAdd] <;> rfl)))
 | (refine st_nil ?_)
 | (apply st_a; (case hc => rfl); (case he => (simp only [go_sem, *] <;> rfl)); (case hu => (simp only [updL_nil, updL_cons] <;> rfl)); (case hp => first | trivial | omega))
 | (apply st_c; (case hc => (simp only [go_sem, *] <;> rfl)); (case hl => (simp only [go_sem, *] <;> rfl)); (case hn => (simp only [go_sem, *] <;> rfl)); (case hp => first | exact c0 | (have hXz := c0; simp only [go_sem, *] at hXz; exact hXz)))
 | (apply Awp.reg; (case hn => (simp only [List.length_cons, List.length_nil, Nat.reduceAdd] <;> rfl)))
 | (refine Awp.skip ?_; try simp only [go_sem, *])
 | refine Awp.block ?_
 | (apply Awp.cond; (case hc => (simp only [go_sem, *] <;> rfl)); all_goals (intro hg; (try simp only [Bool.not_true, Bool.not_false, reduceCtorEq] at hg)))
 | refine Awp.seq ?_)
                  refine ⟨k + 1, ⟨by omega, hnk⟩, by omega, ?_⟩
                  clear hnk c0
                  (apply Ghost.mk [] []; (case hdead => rfl); (case hinj => rfl); (case hV => (simp only [go_sem, *]) <;> (repeat' (first | refine And.intro ?_ ?_ | exact View.int (by first | rfl | omega | (simp; done) | (rw [wrap_i64] <;> (try simp only [Int.natCast_add]) <;> omega) | (simp [*]; done)) | exact .bp rfl (by decide)))); (case hB => (simp only [go_sem, *]) <;> (repeat' (first | exact ⟨_, rfl, BView.boxF rfl⟩))))
              · rw [h1, if_pos rfl] at hsk
                have hf := hbk (e := 2) hsk (by decide)
                rw [hf, if_pos (by decide)]
                clear hbk hsk hnk hf c0
                repeat' (first
 | (apply Awp.sreg; (case hn => (simp only [List.length_cons, List.length_nil, Nat.reduceAdd] <;> rfl)))
 | (refine st_nil ?_)
 | (apply st_a; (case hc => rfl); (case he => (simp only [go_sem, *] <;> rfl)); (case hu => (simp only [updL_nil, updL_cons] <;> rfl)); (case hp => first | trivial | omega))
 | (refine Awp.ret ?_; try simp only [go_sem, *])
 | (refine Awp.skip ?_; try simp only [go_sem, *])
 | refine Awp.block ?_
 | (apply Awp.cond; (case hc => (simp only [go_sem, *] <;> rfl)); all_goals (intro hg; (try simp only [Bool.not_true, Bool.not_false, reduceCtorEq] at hg)))
 | refine Awp.seq ?_)
                all_goals repeat' (first | exact Lower.int (by first | rfl | (simp only [true_and, Bool.true_and, Bool.false_and, Bool.and_true, Bool.and_false, Bool.true_or, Bool.false_or, reduceIte, Bool.false_eq_true, *]; done) | (simp only [true_and, reduceIte, Bool.false_eq_true, *] <;> rfl) | (simp [true_and]; done) | (simp_all [true_and]; done) | omega))
            · have hkl' : ¬ (k : Int) < q.af.length := by omega
              have hf : firstE (chk2k l q) q.af.length = 0 := firstE_end (Nat.le_of_not_lt hkl) hjk
              have hc2 : chk2 l i = 0 := by rw [show chk2 l i = firstE (chk2k l q) q.af.length from hs', hf]
              have hnx2 : chk2 l i = 0 → ∀ j, j < i + 1 → chk2 l j = 0 := hnx'
              have hn2 := hnx2 hc2
              clear hnx2
              clear hjk hf hc2
              repeat' (first
 | (apply Awp.sreg; (case hn => (simp only [List.length_cons, List.length_nil, Nat.reduceAdd] <;> rfl)))
 | (refine st_nil ?_)
 | (apply st_a; (case hc => rfl); (case he => (simp only [go_sem, *] <;> rfl)); (case hu => (simp only [updL_nil, updL_cons] <;> rfl)); (case hp => first | trivial))
 | (apply Awp.reg; (case hn => (simp only [List.length_cons, List.length_nil, Nat.reduceAdd] <;> rfl)))
 | (refine Awp.exit ?_; try simp only [go_sem, *])
 | (apply Awp.cond; (case hc => (simp only [go_sem, *] <;> rfl)); all_goals (intro hg; (try simp only [Bool.not_true, Bool.not_false, reduceCtorEq] at hg)))
 | refine Awp.seq ?_)
              refine ⟨i + 1, ⟨by omega, hn2⟩, by omega, ?_⟩
              clear hn2
              (apply Ghost.mk [] []; (case hdead => rfl); (case hinj => rfl); (case hV => (simp only [go_sem, *]) <;> (repeat' (first | exact View.int (by first | rfl | omega | (simp; done) | (rw [wrap_i64] <;> (try simp only [Int.natCast_add]) <;> omega) | (simp [*]; done))))); (case hB => (simp only [go_sem, *]) <;> (repeat' (first | skip; done))))
        · have hlt' : ¬ (i : Int) < l.length := by omega
          have hf := firstE_end (Nat.le_of_not_lt hlt) hj
          rw [hf, if_neg (by decide)]
          clear hj hf haf
          cases hpe : passE l
          · rw [hpe] at hpass
            repeat' (first
 | (apply Awp.sreg; (case hn => (simp only [List.length_cons, List.length_nil, Nat.reduceAdd] <;> rfl)))
 | (refine st_nil ?_)
 | (apply st_a; (case hc => rfl); (case he => (simp only [go_sem, *] <;> rfl)); (case hu => (simp only [updL_nil, updL_cons] <;> rfl)); (case hp => first | trivial))
 | (apply st_c; (case hc => (simp only [go_sem, *] <;> rfl)); (case hl => (simp only [go_sem, *] <;> rfl)); (case hn => (simp only [go_sem, *] <;> rfl)); (case hp => first | exact hpass | (have hXz := hpass; simp only [go_sem, *] at hXz; exact hXz)))
 | (refine Awp.ret ?_; try simp only [go_sem, *])
 | (refine Awp.exit ?_; try simp only [go_sem, *])
 | (apply Awp.cond; (case hc => (simp only [go_sem, *] <;> rfl)); all_goals (intro hg; (try simp only [Bool.not_true, Bool.not_false, reduceCtorEq] at hg)))
 | refine Awp.seq ?_)
            all_goals repeat' (first | exact Lower.int (by first | rfl | (simp only [true_and, Bool.true_and, Bool.false_and, Bool.and_true, Bool.and_false, Bool.true_or, Bool.false_or, reduceIte, Bool.false_eq_true, *]; done) | (simp only [true_and, reduceIte, Bool.false_eq_true, *] <;> rfl) | (simp [true_and]; done) | (simp_all [true_and]; done) | omega))
          · rw [hpe] at hpass
            repeat' (first
 | (apply Awp.sreg; (case hn => (simp only [List.length_cons, List.length_nil, Nat.reduceAdd] <;> rfl)))
 | (refine st_nil ?_)
 | (apply st_a; (case hc => rfl); (case he => (simp only [go_sem, *] <;> rfl)); (case hu => (simp only [updL_nil, updL_cons] <;> rfl)); (case hp => first | trivial))
 | (apply st_c; (case hc => (simp only [go_sem, *] <;> rfl)); (case hl => (simp only [go_sem, *] <;> rfl)); (case hn => (simp only [go_sem, *] <;> rfl)); (case hp => first | exact hpass | (have hXz := hpass; simp only [go_sem, *] at hXz; exact hXz)))
 | (refine Awp.ret ?_; try simp only [go_sem, *])
 | (refine Awp.skip ?_; try simp only [go_sem, *])
 | (refine Awp.exit ?_; try simp only [go_sem, *])
 | (apply Awp.cond; (case hc => (simp only [go_sem, *] <;> rfl)); all_goals (intro hg; (try simp only [Bool.not_true, Bool.not_false, reduceCtorEq] at hg)))
 | refine Awp.seq ?_)
            all_goals repeat' (first | exact Lower.int (by first | rfl | (simp only [true_and, Bool.true_and, Bool.false_and, Bool.and_true, Bool.and_false, Bool.true_or, Bool.false_or, reduceIte, Bool.false_eq_true, *]; done) | (simp only [true_and, reduceIte, Bool.false_eq_true, *] <;> rfl) | (simp [true_and]; done) | (simp_all [true_and]; done) | omega))
end Go.Proofs
end
section
set_option linter.unusedVariables false
set_option linter.unusedSimpArgs false
namespace Go.Proofs
open Go Go.Ab
set_option maxHeartbeats 8000000
set_option maxRecDepth 100000
attribute [local irreducible] Awp aops aopsL Go.Ab.Pure PureOwn

theorem cloneTe_ok (l : List Te) (hl : l.length < 1000000) : PureOwn Tryz.prog 43 [.sl (tes l)] (tes l) 3 55 :=
  clone_of Tryz.cloneTe ⟨_, Tryz.func43, by kernel_rfl, by kernel_rfl⟩ _ _ 3 48 (show Tryz.prog.info? (Tryz.cloneTe_ren.t 23) = some _ from rfl) rfl rfl rfl rfl (by omega) (fun w => Tryz.sizeOf55 w) (tes l) (tes_one l) (by rw [tes_len]; omega)
theorem strs_one0 (l : List ByteArray) : ∀ y ∈ strs l, y.length = 1 := by
  intro y hy; obtain ⟨x, _, rfl⟩ := List.mem_map.1 hy; rfl
theorem cloneSt_ok (l : List ByteArray) (hl : l.length < 1000000) : PureOwn Tryz.prog 44 [.sl (strs l)] (strs l) 1 9 :=
  clone_of Tryz.cloneSt ⟨_, Tryz.func44, by kernel_rfl, by kernel_rfl⟩ _ _ 1 16 (show Tryz.prog.info? (Tryz.cloneSt_ren.t 23) = some _ from rfl) rfl rfl rfl rfl (by omega) (fun w => Tryz.sizeOf9 w) (strs l) (strs_one0 l) (by simp [strs]; omega)
theorem teX_back {hd : Nat → Option Blk} {ρ : Nat → Nat} {nx : Nat} {l : List Te} {k b : Nat} {S : List ByteArray} {nm : ByteArray} {d : Bool} {es' : List (List AV)} (hb : hd b = some (.row (strs S) 1 9)) (hes : tes (l.set k ⟨nm, S, d⟩) = es') : BView hd ρ nx (.rowX ((tes l).set k [.v (.string nm), .own b, .v (.bool d)]) 3 55) (.row es' 3 55) := by
  subst hes
  refine .rowX (by simp [tes]) (tes_one _) fun i j hi hj => ?_
  have hi' : i < (tes l).length := by simpa using hi
  have hset : tes (l.set k ⟨nm, S, d⟩) = (tes l).set k [.v (.string nm), .sl (strs S), .v (.bool d)] := by simp [tes, List.map_set, Te.cells]
  rw [hset]
  have e : ∀ c : List AV, ((tes l).set k c).getD i [] = if k = i then c else (tes l).getD i [] := fun c => by
    simp only [List.getD_eq_getElem?_getD, List.getElem?_set]
    by_cases h : k = i
    · subst h; simp [hi']
    · simp [h]
  rw [e, e]
  by_cases h : k = i
  · rw [if_pos h, if_pos h]
    match j, hj with
    | 0, _ => exact .same _ rfl
    | 1, _ => exact .own hb
    | 2, _ => exact .same _ rfl
  · rw [if_neg h, if_neg h]
    rw [tes_at l i (by rw [tes_len] at hi'; exact hi')]
    match j, hj with
    | 0, _ => exact .same _ rfl
    | 1, _ => exact .same _ rfl
    | 2, _ => exact .same _ rfl
theorem tes_setlen (l : List Te) (k : Nat) (c : List AV) : ((tes l).set k c).length = l.length := by simp [tes]
theorem tes_setat (l : List Te) (k : Nat) (h : k < l.length) (c : List AV) : ((tes l).set k c).getD k [] = c := by
  simp [List.getD_eq_getElem?_getD, List.getElem?_set, tes, h]
def doneB (l : List Te) (b : ByteArray) : Bool := decide (0 ≤ findE l b) && (l.getD (findE l b).toNat zeroTe).dn
def passAt (l : List Te) (i : Nat) : List Te × Int := if (l.getD i zeroTe).dn then ([], 14) else if (l.getD i zeroTe).af.any (fun b => !doneB l b) then ([], 11) else (l.set i ⟨(l.getD i zeroTe).id, (l.getD i zeroTe).af, true⟩, 0)
def passT (l : List Te) (s : ByteArray) : List Te × Int := if findE l s < 0 then ([], 8) else passAt l (findE l s).toNat
theorem find_in {l : List Te} {s : ByteArray} (h : ¬ findE l s < 0) : ∃ i, i < l.length ∧ findE l s = i ∧ isT s (l.getD i zeroTe) = true := by
  unfold findE at *
  rcases idxF_some (p := isT s) (l := l) zeroTe with ⟨hI, _⟩ | ⟨i, hil, hI, h2, _⟩
  · rw [hI] at h; exact absurd (by decide) h
  · exact ⟨i, hil, hI, h2⟩
theorem pass_ok (l : List Te) (s : ByteArray) (hl : l.length < 10000) (haf : ∀ i, i < l.length → (l.getD i zeroTe).af.length < 100000) :
    Pure Tryz.prog 21 [.sl (tes l), .v (.string s)] (.tup [.sl (tes (passT l s).1), .v (.int .i64 (passT l s).2)]) := by
  have c0 := find_ok l s (by omega)
  have c1 := cloneTe_ok l (by omega)
  unfold passT
  by_cases hF : findE l s < 0
  · rw [if_pos hF]
    generalize findE l s = F at *
    clear haf
    refine fn_pure Tryz.F21 (Nat.le_of_ble_eq_true rfl) ?_; unfold Tryz.ac21
    repeat' (first
 | (apply Awp.sreg; (case hn => (simp only [List.length_cons, List.length_nil, Nat.reduceAdd] <;> rfl)))
 | (refine st_nil ?_)
 | (apply st_a; (case hc => rfl); (case he => (simp only [go_sem, *] <;> rfl)); (case hu => (simp only [updL_nil, updL_cons] <;> rfl)); (case hp => first | trivial))
 | (apply st_c; (case hc => (simp only [go_sem, *] <;> rfl)); (case hl => (simp only [go_sem, *] <;> rfl)); (case hn => (simp only [go_sem, *] <;> rfl)); (case hp => first | exact c0 | (have hXz := c0; simp only [go_sem, *] at hXz; exact hXz)))
 | (refine Awp.ret ?_; try simp only [go_sem, *])
 | (apply Awp.cond; (case hc => (simp only [go_sem, *] <;> rfl)); all_goals (intro hg; (try simp only [Bool.not_true, Bool.not_false, reduceCtorEq] at hg)))
 | refine Awp.seq ?_)
    all_goals repeat' (first | exact Lower.int (by first | rfl | (simp only [true_and, Bool.true_and, Bool.false_and, Bool.and_true, Bool.and_false, Bool.true_or, Bool.false_or, reduceIte, Bool.false_eq_true, *]; done) | (simp only [true_and, reduceIte, Bool.false_eq_true, *] <;> rfl) | (simp [true_and]; done) | (simp_all [true_and]; done) | omega) | exact Lower.nilE (by first | rfl | (simp only [true_and, Bool.true_and, Bool.false_and, Bool.and_true, Bool.and_false, Bool.true_or, Bool.false_or, reduceIte, Bool.false_eq_true, *]; done) | (simp only [true_and, reduceIte, Bool.false_eq_true, *] <;> rfl) | (simp [true_and]; done) | (simp_all [true_and]; done) | omega) | refine Lower.tupF ?_ | refine All2.cons ?_ ?_ | exact All2.nil)
  rw [if_neg hF]
  obtain ⟨i, hil, hFi, _⟩ := find_in hF
  rw [hFi] at c0 ⊢
  clear hF hFi
  rw [Int.toNat_natCast]
  have hi0 : decide ((i : Int) < 0) = false := decide_eq_false (by omega)
  have hi0' : (0 : Int) ≤ i := by omega
  have hil' : (i : Int) < l.length := by omega
  have hat := tes_at l i hil
  have hz : ((l.getD i zeroTe).cells).length = 3 := rfl
  have hafi := haf i hil
  unfold passAt
  obtain ⟨q, hq⟩ : ∃ q, l.getD i zeroTe = q := ⟨_, rfl⟩
  rw [hq] at hat hz hafi ⊢
  have hln : (strs q.af).length = q.af.length := by simp [strs]
  cases hdn : q.dn
  case true =>
    rw [if_pos rfl]
    clear haf hq hln
    refine fn_pure Tryz.F21 (Nat.le_of_ble_eq_true rfl) ?_; unfold Tryz.ac21
    repeat' (first
 | (apply Awp.sreg; (case hn => (simp only [List.length_cons, List.length_nil, Nat.reduceAdd] <;> rfl)))
 | (refine st_nil ?_)
 | (apply st_a; (case hc => rfl); (case he => (simp only [go_sem, *] <;> rfl)); (case hu => (simp only [updL_nil, updL_cons] <;> rfl)); (case hp => first | trivial))
 | (apply st_c; (case hc => (simp only [go_sem, *] <;> rfl)); (case hl => (simp only [go_sem, *] <;> rfl)); (case hn => (simp only [go_sem, *] <;> rfl)); (case hp => first | exact c0 | (have hXz := c0; simp only [go_sem, *] at hXz; exact hXz)))
 | (refine Awp.ret ?_; try simp only [go_sem, *])
 | (refine Awp.skip ?_; try simp only [go_sem, *])
 | (apply Awp.cond; (case hc => (simp only [go_sem, *] <;> rfl)); all_goals (intro hg; (try simp only [Bool.not_true, Bool.not_false, reduceCtorEq] at hg)))
 | refine Awp.seq ?_)
    all_goals repeat' (first | exact Lower.int (by first | rfl | (simp only [true_and, Bool.true_and, Bool.false_and, Bool.and_true, Bool.and_false, Bool.true_or, Bool.false_or, reduceIte, Bool.false_eq_true, *]; done) | (simp only [true_and, reduceIte, Bool.false_eq_true, *] <;> rfl) | (simp [true_and]; done) | (simp_all [true_and]; done) | omega) | exact Lower.nilE (by first | rfl | (simp only [true_and, Bool.true_and, Bool.false_and, Bool.and_true, Bool.and_false, Bool.true_or, Bool.false_or, reduceIte, Bool.false_eq_true, *]; done) | (simp only [true_and, reduceIte, Bool.false_eq_true, *] <;> rfl) | (simp [true_and]; done) | (simp_all [true_and]; done) | omega) | refine Lower.tupF ?_ | refine All2.cons ?_ ?_ | exact All2.nil)
  rw [if_neg (by decide)]
  refine fn_pure Tryz.F21 (Nat.le_of_ble_eq_true rfl) ?_; unfold Tryz.ac21
  repeat' (first
 | (apply Awp.sreg; (case hn => (simp only [List.length_cons, List.length_nil, Nat.reduceAdd] <;> rfl)))
 | (refine st_nil ?_)
 | (apply st_a; (case hc => rfl); (case he => (simp only [go_sem, *] <;> rfl)); (case hu => (simp only [updL_nil, updL_cons] <;> rfl)); (case hp => first | trivial))
 | (apply st_c; (case hc => (simp only [go_sem, *] <;> rfl)); (case hl => (simp only [go_sem, *] <;> rfl)); (case hn => (simp only [go_sem, *] <;> rfl)); (case hp => first | exact c0 | (have hXz := c0; simp only [go_sem, *] at hXz; exact hXz)))
 | (refine Awp.skip ?_; try simp only [go_sem, *])
 | refine Awp.block ?_
 | (apply Awp.cond; (case hc => (simp only [go_sem, *] <;> rfl)); all_goals (intro hg; (try simp only [Bool.not_true, Bool.not_false, reduceCtorEq] at hg)))
 | refine Awp.seq ?_)
  clear c0
  refine Awp.loop (fun k : Nat => k ≤ q.af.length ∧ ∀ j, j < k → (fun b => !doneB l b) (q.af.getD j zeroB) = false) 60 (fun k => mkS [(0, .sl (tes l)), (6, .v (.int .i64 i)), (25, .sl (strs q.af)), (26, .v (.int .i64 q.af.length)), (27, .v (.int .i64 k))] []) (fun k => q.af.length - k) 0 (by simp) ?_ ?_
  · clear haf c1 hq hln
    (apply Ghost.mk [] []; (case hdead => rfl); (case hinj => rfl); (case hV => (simp only [go_sem, *]) <;> (repeat' (first | exact View.int (by first | rfl | omega | (simp; done) | (rw [wrap_i64] <;> (try simp only [Int.natCast_add]) <;> omega) | (simp [*]; done))))); (case hB => (simp only [go_sem, *]) <;> (repeat' (first | skip; done))))
  · intro k ⟨hk, hj⟩
    by_cases hkl : k < q.af.length
    · have hkl' : (k : Int) < q.af.length := by omega
      have hatk := strs_at0 q.af k hkl
      have c0 := find_ok l (q.af.getD k zeroB) (by omega)
      have hdb : doneB l (q.af.getD k zeroB) = (decide (0 ≤ findE l (q.af.getD k zeroB)) && (l.getD (findE l (q.af.getD k zeroB)).toNat zeroTe).dn) := rfl
      have hnx0 := fun h => ltSucc (P := fun j => (fun b => !doneB l b) (q.af.getD j zeroB) = false) hj h
      have hany := fun h => any_in (p := fun b => !doneB l b) (d := zeroB) hkl h
      clear hj c1 haf hq
      by_cases hF : findE l (q.af.getD k zeroB) < 0
      · have h1 : doneB l (q.af.getD k zeroB) = false := by rw [hdb, decide_eq_false (by omega)]; rfl
        have hany := hany (by show (!doneB l _) = true; rw [h1]; rfl)
        rw [hany, if_pos rfl]
        clear hnx0 hdb h1 hany
        generalize findE l (q.af.getD k zeroB) = F at *
        generalize q.af.getD k zeroB = u at *
        repeat' (first
 | (apply Awp.sreg; (case hn => (simp only [List.length_cons, List.length_nil, Nat.reduceAdd] <;> rfl)))
 | (refine st_nil ?_)
 | (apply st_a; (case hc => rfl); (case he => (simp only [go_sem, *] <;> rfl)); (case hu => (simp only [updL_nil, updL_cons] <;> rfl)); (case hp => first | trivial | omega))
 | (apply st_m; (case hc => rfl); (case hg => (simp only [go_sem, *] <;> rfl)); (case he => (intro hQz; (try simp only [wantB_t, wantB_f, Bool.and_eq_true, Bool.not_eq_true', Bool.not_true, Bool.not_false, and_true, true_and] at hQz); simp only [go_sem, *] <;> rfl)); (case hp => (intro hQz; (try simp only [wantB_t, wantB_f, Bool.and_eq_true, Bool.not_eq_true', Bool.or_eq_false_iff, decide_eq_true_eq, decide_eq_false_iff_not, beq_iff_eq, beq_eq_false_iff_ne, bne_iff_ne, bne_eq_false_iff_eq, Int.not_lt, Int.not_le, Int.ofNat_lt, Int.ofNat_le] at hQz); first | trivial)))
 | (apply st_c; (case hc => (simp only [go_sem, *] <;> rfl)); (case hl => (simp only [go_sem, *] <;> rfl)); (case hn => (simp only [go_sem, *] <;> rfl)); (case hp => first | exact c0 | (have hXz := c0; simp only [go_sem, *] at hXz; exact hXz)))
 | (refine Awp.ret ?_; try simp only [go_sem, *])
 | (refine Awp.skip ?_; try simp only [go_sem, *])
 | refine Awp.block ?_
 | (apply Awp.cond; (case hc => (simp only [go_sem, *] <;> rfl)); all_goals (intro hg; (try simp only [Bool.not_true, Bool.not_false, reduceCtorEq] at hg)))
 | refine Awp.seq ?_)
        all_goals repeat' (first | exact Lower.int (by first | rfl | (simp only [true_and, Bool.true_and, Bool.false_and, Bool.and_true, Bool.and_false, Bool.true_or, Bool.false_or, reduceIte, Bool.false_eq_true, *]; done) | (simp only [true_and, reduceIte, Bool.false_eq_true, *] <;> rfl) | (simp [true_and]; done) | (simp_all [true_and]; done) | omega) | exact Lower.nilE (by first | rfl | (simp only [true_and, Bool.true_and, Bool.false_and, Bool.and_true, Bool.and_false, Bool.true_or, Bool.false_or, reduceIte, Bool.false_eq_true, *]; done) | (simp only [true_and, reduceIte, Bool.false_eq_true, *] <;> rfl) | (simp [true_and]; done) | (simp_all [true_and]; done) | omega) | refine Lower.tupF ?_ | refine All2.cons ?_ ?_ | exact All2.nil)
      · obtain ⟨m, hml, hFm, _⟩ := find_in hF
        rw [hFm] at c0 hdb
        clear hF hFm
        rw [decide_eq_true (by omega), Bool.true_and, Int.toNat_natCast] at hdb
        have hm0 : decide ((m : Int) < 0) = false := decide_eq_false (by omega)
        have hm0' : (0 : Int) ≤ m := by omega
        have hml' : (m : Int) < l.length := by omega
        have hatm := tes_at l m hml
        have hzm : ((l.getD m zeroTe).cells).length = 3 := rfl
        generalize l.getD m zeroTe = y at *
        cases hy : y.dn
        · rw [hy] at hdb
          have hany := hany (by show (!doneB l _) = true; rw [hdb]; rfl)
          rw [hany, if_pos rfl]
          clear hnx0 hdb hany
          generalize q.af.getD k zeroB = u at *
          repeat' (first
 | (apply Awp.sreg; (case hn => (simp only [List.length_cons, List.length_nil, Nat.reduceAdd] <;> rfl)))
 | (refine st_nil ?_)
 | (apply st_a; (case hc => rfl); (case he => (simp only [go_sem, *] <;> rfl)); (case hu => (simp only [updL_nil, updL_cons] <;> rfl)); (case hp => first | trivial | omega))
 | (apply st_m; (case hc => rfl); (case hg => (simp only [go_sem, *] <;> rfl)); (case he => (intro hQz; (try simp only [wantB_t, wantB_f, Bool.and_eq_true, Bool.not_eq_true', Bool.not_true, Bool.not_false, and_true, true_and] at hQz); simp only [go_sem, *] <;> rfl)); (case hp => (intro hQz; (try simp only [wantB_t, wantB_f, Bool.and_eq_true, Bool.not_eq_true', Bool.or_eq_false_iff, decide_eq_true_eq, decide_eq_false_iff_not, beq_iff_eq, beq_eq_false_iff_ne, bne_iff_ne, bne_eq_false_iff_eq, Int.not_lt, Int.not_le, Int.ofNat_lt, Int.ofNat_le] at hQz); first | trivial)))
 | (apply st_c; (case hc => (simp only [go_sem, *] <;> rfl)); (case hl => (simp only [go_sem, *] <;> rfl)); (case hn => (simp only [go_sem, *] <;> rfl)); (case hp => first | exact c0 | (have hXz := c0; simp only [go_sem, *] at hXz; exact hXz)))
 | (refine Awp.ret ?_; try simp only [go_sem, *])
 | (refine Awp.skip ?_; try simp only [go_sem, *])
 | refine Awp.block ?_
 | (apply Awp.cond; (case hc => (simp only [go_sem, *] <;> rfl)); all_goals (intro hg; (try simp only [Bool.not_true, Bool.not_false, reduceCtorEq] at hg)))
 | refine Awp.seq ?_)
          all_goals repeat' (first | exact Lower.int (by first | rfl | (simp only [true_and, Bool.true_and, Bool.false_and, Bool.and_true, Bool.and_false, Bool.true_or, Bool.false_or, reduceIte, Bool.false_eq_true, *]; done) | (simp only [true_and, reduceIte, Bool.false_eq_true, *] <;> rfl) | (simp [true_and]; done) | (simp_all [true_and]; done) | omega) | exact Lower.nilE (by first | rfl | (simp only [true_and, Bool.true_and, Bool.false_and, Bool.and_true, Bool.and_false, Bool.true_or, Bool.false_or, reduceIte, Bool.false_eq_true, *]; done) | (simp only [true_and, reduceIte, Bool.false_eq_true, *] <;> rfl) | (simp [true_and]; done) | (simp_all [true_and]; done) | omega) | refine Lower.tupF ?_ | refine All2.cons ?_ ?_ | exact All2.nil)
        · rw [hy] at hdb
          have hnx : ∀ j, j < k + 1 → (fun b => !doneB l b) (q.af.getD j zeroB) = false := hnx0 (by show (!doneB l _) = false; rw [hdb]; rfl)
          clear hany hdb hnx0
          generalize hu : q.af.getD k zeroB = u at *
          repeat' (first
 | (apply Awp.sreg; (case hn => (simp only [List.length_cons, List.length_nil, Nat.reduceAdd] <;> rfl)))
 | (refine st_nil ?_)
 | (apply st_a; (case hc => rfl); (case he => (simp only [go_sem, *] <;> rfl)); (case hu => (simp only [updL_nil, updL_cons] <;> rfl)); (case hp => first | trivial | omega))
 | (apply st_m; (case hc => rfl); (case hg => (simp only [go_sem, *] <;> rfl)); (case he => (intro hQz; (try simp only [wantB_t, wantB_f, Bool.and_eq_true, Bool.not_eq_true', Bool.not_true, Bool.not_false, and_true, true_and] at hQz); simp only [go_sem, *] <;> rfl)); (case hp => (intro hQz; (try simp only [wantB_t, wantB_f, Bool.and_eq_true, Bool.not_eq_true', Bool.or_eq_false_iff, decide_eq_true_eq, decide_eq_false_iff_not, beq_iff_eq, beq_eq_false_iff_ne, bne_iff_ne, bne_eq_false_iff_eq, Int.not_lt, Int.not_le, Int.ofNat_lt, Int.ofNat_le] at hQz); first | trivial)))
 | (apply st_c; (case hc => (simp only [go_sem, *] <;> rfl)); (case hl => (simp only [go_sem, *] <;> rfl)); (case hn => (simp only [go_sem, *] <;> rfl)); (case hp => first | exact c0 | (have hXz := c0; simp only [go_sem, *] at hXz; exact hXz)))
 | (apply Awp.reg; (case hn => (simp only [List.length_cons, List.length_nil, Nat.reduceAdd] <;> rfl)))
 | (refine Awp.skip ?_; try simp only [go_sem, *])
 | refine Awp.block ?_
 | (apply Awp.cond; (case hc => (simp only [go_sem, *] <;> rfl)); all_goals (intro hg; (try simp only [Bool.not_true, Bool.not_false, reduceCtorEq] at hg)))
 | refine Awp.seq ?_)
          refine ⟨k + 1, ⟨by omega, hnx⟩, by omega, ?_⟩
          clear hnx c0
          (apply Ghost.mk [] []; (case hdead => rfl); (case hinj => rfl); (case hV => (simp only [go_sem, *]) <;> (repeat' (first | exact View.int (by first | rfl | omega | (simp; done) | (rw [wrap_i64] <;> (try simp only [Int.natCast_add]) <;> omega) | (simp [*]; done))))); (case hB => (simp only [go_sem, *]) <;> (repeat' (first | skip; done))))
    · have hkl' : ¬ (k : Int) < q.af.length := by omega
      have hf := any_end (p := fun b => !doneB l b) (Nat.le_of_not_lt hkl) hj
      rw [hf, if_neg (by decide)]
      clear hj hf hln hat hz hafi
      repeat' (first
 | (apply Awp.sreg; (case hn => (simp only [List.length_cons, List.length_nil, Nat.reduceAdd] <;> rfl)))
 | (refine st_nil ?_)
 | (apply st_a; (case hc => rfl); (case he => (simp only [go_sem, *] <;> rfl)); (case hu => (simp only [updL_nil, updL_cons] <;> rfl)); (case hp => first | trivial))
 | (apply st_co; (case hc => (simp only [go_sem, *] <;> rfl)); (case hl => (simp only [go_sem, *] <;> rfl)); (case hn => (simp only [go_sem, *] <;> rfl)); (case hp => first | exact c1 | (have hXz := c1; simp only [go_sem, *] at hXz; exact hXz)))
 | (refine Awp.exit ?_; try simp only [go_sem, *])
 | refine Awp.block ?_
 | (apply Awp.cond; (case hc => (simp only [go_sem, *] <;> rfl)); all_goals (intro hg; (try simp only [Bool.not_true, Bool.not_false, reduceCtorEq] at hg)))
 | refine Awp.seq ?_)
      clear c1
      refine Awp.loop (fun k : Nat => k ≤ l.length) 100 (fun k => mkS [(4, .own 1), (6, .v (.int .i64 i)), (47, .own 1), (48, .v (.int .i64 l.length)), (49, .v (.int .i64 k))] [(1, .row (tes l) 3 55)]) (fun k => l.length - k) 0 (by omega) ?_ ?_
      · clear haf
        (apply Ghost.mk [(1, 62)] []; (case hdead => rfl); (case hinj => rfl); (case hV => (simp only [go_sem, *]) <;> (repeat' (first | refine And.intro ?_ ?_ | exact View.int (by first | rfl | omega | (simp; done) | (rw [wrap_i64] <;> (try simp only [Int.natCast_add]) <;> omega) | (simp [*]; done)) | exact .own rfl (by decide)))); (case hB => (simp only [go_sem, *]) <;> (repeat' (first | exact ⟨_, rfl, .rowE (by first | rfl | omega | (simp; done) | (rw [wrap_i64] <;> (try simp only [Int.natCast_add]) <;> omega) | (simp [*]; done))⟩))))
      · intro k hk
        by_cases hlt : k < l.length
        · have hlt' : (k : Int) < l.length := by omega
          have hat := tes_at l k hlt
          have hz : ((l.getD k zeroTe).cells).length = 3 := rfl
          have c2 := cloneSt_ok (l.getD k zeroTe).af (by have := haf k hlt; omega)
          have hset : tes (l.set k ⟨(l.getD k zeroTe).id, (l.getD k zeroTe).af, (l.getD k zeroTe).dn⟩) = tes l := by
            congr 1
            have : (⟨(l.getD k zeroTe).id, (l.getD k zeroTe).af, (l.getD k zeroTe).dn⟩ : Te) = l[k] := by rw [getD_get l zeroTe k hlt]
            rw [this]; simp
          have hsl := tes_setlen l k
          have hsg := tes_setat l k hlt
          clear haf hq
          obtain ⟨u, hu⟩ : ∃ u, l.getD k zeroTe = u := ⟨_, rfl⟩
          rw [hu] at hat hz hset c2
          clear hu
          repeat' (first
 | (apply Awp.sreg; (case hn => (simp only [List.length_cons, List.length_nil, Nat.reduceAdd] <;> rfl)))
 | (refine st_nil ?_)
 | (apply st_a; (case hc => rfl); (case he => (simp only [go_sem, *] <;> rfl)); (case hu => (simp only [updL_nil, updL_cons] <;> rfl)); (case hp => first | trivial | omega))
 | (apply st_sx; (case he => (simp only [go_sem, *] <;> rfl)); (case hu => (simp only [updL_nil, updL_cons] <;> rfl)); (case hp => first | trivial))
 | (apply st_cod; (case hc => (simp only [go_sem, *] <;> rfl)); (case hl => (simp only [go_sem, *] <;> rfl)); (case hn => (simp only [go_sem, *] <;> rfl)); (case hp => first | exact c2 | (have hXz := c2; simp only [go_sem, *] at hXz; exact hXz)); (case hd => first | exact sps_dry _ | exact ints_dry _ | exact pts_dry _ | exact strs_dry _ | (repeat' (first | exact Dry.v _ | exact Dry.any | exact Dry.nils | exact Dry.slE | refine Dry.agg ?_ | refine Dry.tup ?_ | (refine List.forall_mem_cons.2 (And.intro ?_ ?_)) | (intro cQ hQ; cases hQ; done)))); (case hm => first | decide | (simp; done)))
 | (apply Awp.reg; (case hn => (simp only [List.length_cons, List.length_nil, Nat.reduceAdd] <;> rfl)))
 | (refine Awp.skip ?_; try simp only [go_sem, *])
 | refine Awp.block ?_
 | (apply Awp.cond; (case hc => (simp only [go_sem, *] <;> rfl)); all_goals (intro hg; (try simp only [Bool.not_true, Bool.not_false, reduceCtorEq] at hg)))
 | refine Awp.seq ?_)
          refine ⟨k + 1, by omega, by omega, ?_⟩
          clear c2
          (apply Ghost.mk [] [110]; (case hdead => rfl); (case hinj => rfl); (case hV => (simp only [go_sem, *]) <;> (repeat' (first | refine And.intro ?_ ?_ | exact View.int (by first | rfl | omega | (simp; done) | (rw [wrap_i64] <;> (try simp only [Int.natCast_add]) <;> omega) | (simp [*]; done)) | exact .own rfl (by decide)))); (case hB => (simp only [go_sem, *]) <;> (repeat' (first | exact ⟨_, rfl, teX_back rfl hset⟩))))
        · have hlt' : ¬ (k : Int) < l.length := by omega
          have hat := tes_at l i hil
          have hz : ((l.getD i zeroTe).cells).length = 3 := rfl
          have hfin : (tes l).set i [.v (.string q.id), .sl (strs q.af), .v (.bool true)] = tes (l.set i ⟨q.id, q.af, true⟩) := by simp [tes, List.map_set, Te.cells]
          rw [hq] at hat hz
          clear haf hq
          repeat' (first
 | (apply Awp.sreg; (case hn => (simp only [List.length_cons, List.length_nil, Nat.reduceAdd] <;> rfl)))
 | (refine st_nil ?_)
 | (apply st_a; (case hc => rfl); (case he => (simp only [go_sem, *] <;> rfl)); (case hu => (simp only [updL_nil, updL_cons] <;> rfl)); (case hp => first | trivial | (simp; done)))
 | (refine Awp.ret ?_; try simp only [go_sem, *])
 | (refine Awp.exit ?_; try simp only [go_sem, *])
 | (apply Awp.cond; (case hc => (simp only [go_sem, *] <;> rfl)); all_goals (intro hg; (try simp only [Bool.not_true, Bool.not_false, reduceCtorEq] at hg)))
 | refine Awp.seq ?_)
          all_goals repeat' (first | exact Lower.int (by first | rfl | (simp only [true_and, Bool.true_and, Bool.false_and, Bool.and_true, Bool.and_false, Bool.true_or, Bool.false_or, reduceIte, Bool.false_eq_true, *]; done) | (simp only [true_and, reduceIte, Bool.false_eq_true, *] <;> rfl) | (simp [true_and]; done) | (simp_all [true_and]; done) | omega) | exact Lower.ownE (by simp only [go_sem, *] <;> rfl) (by first | rfl | (simp only [true_and, Bool.true_and, Bool.false_and, Bool.and_true, Bool.and_false, Bool.true_or, Bool.false_or, reduceIte, Bool.false_eq_true, *]; done) | (simp only [true_and, reduceIte, Bool.false_eq_true, *] <;> rfl) | (simp [true_and]; done) | (simp_all [true_and]; done) | omega) | refine Lower.tupF ?_ | refine All2.cons ?_ ?_ | exact All2.nil)
end Go.Proofs
end
section
set_option linter.unusedVariables false
set_option linter.unusedSimpArgs false
namespace Go.Proofs
open Go Go.Ab
set_option maxHeartbeats 8000000
set_option maxRecDepth 100000
attribute [local irreducible] Awp aops aopsL Go.Ab.Pure PureOwn

theorem st_fullg {P : Program} {d : Option Nat} {deps : List Nat} {r : List AOper} {nm : Nat} {t : Nat → AV} {h : Nat → Option Blk} {K : AState → Prop} {p : Prop} {e : TypeId} {sz q : Nat} {want : Bool} {ps : List AOpd} {es : List (List AV)} (hv : t q = .v (.bool want)) (hr : rowE ⟨t, h⟩ sz ps = (p, es)) (hn : ps ≠ []) (hp : p) (hk : aops P r (nm + 1) ⟨putT t d (.slf es sz e), h⟩ K) : aops P (⟨d, .buildSlice e sz ps, some (q, want), deps⟩ :: r) nm ⟨t, h⟩ K :=
  st_g hv (fun _ => st_full hr hn hp hk) (fun h => by cases want <;> cases h)
theorem pureV_nilc {st : Nat → Prop} {w : World} {es es' : List (List AV)} {c : Value} (hl : es'.length = es.length) (hz : ∀ i : Nat, i < es.length → (es.getD i []).length = (es'.getD i []).length)
    (hc : ∀ i j : Nat, i < es.length → j < (es.getD i []).length → av (es.getD i []) j = av (es'.getD i []) j ∨ (av (es'.getD i []) j = .nils ∧ av (es.getD i []) j = .sl [])) (h : PureV st w (.sl es') c) : PureV st w (.sl es) c := by
  cases h with
  | slE a cap hcap =>
    have : es = [] := List.eq_nil_of_length_eq_zero (by simpa using hl.symm)
    subst this
    exact .slE a cap hcap
  | slC _ g off cap sz f h1 h2 h3 h4 h5 h6 h7 h8 =>
    have hes : ∀ x ∈ es, x.length = sz := fun x hx => by
      obtain ⟨i, hi, rfl⟩ := List.getElem_of_mem hx
      have e1 := hz i hi
      have e2 : es.getD i [] = es[i] := by simp [List.getD_eq_getElem?_getD, hi]
      have e3 : es'.getD i [] = es'[i]'(by omega) := by simp [List.getD_eq_getElem?_getD, show i < es'.length by omega]
      rw [e2, e3] at e1
      rw [e1]
      exact h5 _ (List.getElem_mem _)
    rw [hl]
    refine .slC es g off cap sz f (by rw [← hl]; exact h1) h2 h3 (fun e => h4 (List.eq_nil_of_length_eq_zero (by rw [hl, e]; rfl))) hes h6 (fun i j hi hj => h7 i j (by rw [hl]; exact hi) hj) fun i j hi hj => ?_
    have hjl : j < (es.getD i []).length := by
      have e2 : es.getD i [] = es[i] := by simp [List.getD_eq_getElem?_getD, hi]
      rw [e2, hes _ (List.getElem_mem _)]
      exact hj
    have h9 := h8 i j (by rw [hl]; exact hi) hj
    rcases hc i j hi hjl with k | ⟨k1, k2⟩
    · rw [k]; exact h9
    · rw [k1] at h9
      rw [k2]
      generalize f i j = u at h9 ⊢
      cases h9 with
      | nils a => exact .slE a 0 (Nat.zero_le _)
theorem pure_nilc {P : Program} {f : Nat} {es es' : List (List AV)} {r : List AV} {res : AV} (h : Go.Ab.Pure P f (.sl es :: r) res) (hl : es'.length = es.length) (hz : ∀ i : Nat, i < es.length → (es.getD i []).length = (es'.getD i []).length)
    (hc : ∀ i j : Nat, i < es.length → j < (es.getD i []).length → av (es.getD i []) j = av (es'.getD i []) j ∨ (av (es'.getD i []) j = .nils ∧ av (es.getD i []) j = .sl [])) : Go.Ab.Pure P f (.sl es' :: r) res := by
  unfold Go.Ab.Pure at h ⊢
  refine ⟨h.1, fun ok w cs hv => h.2 ok w cs ⟨hv.1, fun j hj => ?_⟩⟩
  have := hv.2 j hj
  match j, hj with
  | 0, _ => exact pureV_nilc hl hz hc this
  | j + 1, _ => exact this
theorem exAdd1 : addE [] ⟨⟨⟨[98]⟩⟩, 1, 4, 6⟩ 0 = ([⟨⟨⟨[98]⟩⟩, 1, 4, 6⟩], 0) := by kernel_rfl
theorem exAdd2 : addE [⟨⟨⟨[98]⟩⟩, 1, 4, 6⟩] ⟨⟨⟨[97]⟩⟩, 1, 1, 4⟩ 0 = ([⟨⟨⟨[97]⟩⟩, 1, 1, 4⟩, ⟨⟨⟨[98]⟩⟩, 1, 4, 6⟩], 0) := by kernel_rfl
theorem exAdd3 : addE [⟨⟨⟨[97]⟩⟩, 1, 1, 4⟩, ⟨⟨⟨[98]⟩⟩, 1, 4, 6⟩] ⟨⟨⟨[99]⟩⟩, 1, 5, 9⟩ 9 = ([], 15) := by kernel_rfl
theorem exAdd4 : addE [⟨⟨⟨[97]⟩⟩, 1, 1, 4⟩, ⟨⟨⟨[98]⟩⟩, 1, 4, 6⟩] ⟨⟨⟨[97]⟩⟩, 1, 5, 9⟩ 8 = ([], 7) := by kernel_rfl
theorem exPass1 : passT [⟨⟨⟨[97]⟩⟩, [⟨⟨[98]⟩⟩], false⟩, ⟨⟨⟨[98]⟩⟩, [], false⟩] (⟨⟨[97]⟩⟩ : ByteArray) = ([], 11) := by kernel_rfl
theorem exPass2 : passT [⟨⟨⟨[97]⟩⟩, [⟨⟨[98]⟩⟩], false⟩, ⟨⟨⟨[98]⟩⟩, [], false⟩] (⟨⟨[98]⟩⟩ : ByteArray) = ([⟨⟨⟨[97]⟩⟩, [⟨⟨[98]⟩⟩], false⟩, ⟨⟨⟨[98]⟩⟩, [], true⟩], 0) := by kernel_rfl
theorem exPass3 : passT [⟨⟨⟨[97]⟩⟩, [⟨⟨[98]⟩⟩], false⟩, ⟨⟨⟨[98]⟩⟩, [], true⟩] (⟨⟨[97]⟩⟩ : ByteArray) = ([⟨⟨⟨[97]⟩⟩, [⟨⟨[98]⟩⟩], true⟩, ⟨⟨⟨[98]⟩⟩, [], true⟩], 0) := by kernel_rfl
theorem exChk1 : chkT [⟨⟨⟨[97]⟩⟩, [⟨⟨[98]⟩⟩], false⟩, ⟨⟨⟨[98]⟩⟩, [], false⟩] = 0 := by kernel_rfl
theorem exChk2 : chkT [⟨⟨⟨[97]⟩⟩, [⟨⟨[98]⟩⟩], false⟩, ⟨⟨⟨[98]⟩⟩, [⟨⟨[97]⟩⟩], false⟩] = 20 := by kernel_rfl
theorem exVal1 : validB [⟨⟨⟨[97]⟩⟩, 1, 1, 4⟩, ⟨⟨⟨[98]⟩⟩, 1, 4, 6⟩] 1 4 = true := by kernel_rfl
theorem exVal2 : validB [⟨⟨⟨[97]⟩⟩, 1, 1, 4⟩, ⟨⟨⟨[98]⟩⟩, 1, 4, 6⟩] 2 4 = false := by kernel_rfl
theorem exVal3 : validB [⟨⟨⟨[97]⟩⟩, 1, 1, 4⟩, ⟨⟨⟨[98]⟩⟩, 1, 4, 6⟩] 1 6 = false := by kernel_rfl
theorem exCov : covE [⟨⟨⟨[97]⟩⟩, 1, 1, 4⟩, ⟨⟨⟨[98]⟩⟩, 1, 4, 6⟩] 1 ⟨0, 5⟩ = [⟨1, 5⟩] := by kernel_rfl
theorem awake_ok : Pure Tryz.prog 11 [] (.v (.bool true)) := by
  have a1 : Pure Tryz.prog 12 [.sl [], .agg [.v (.string ⟨⟨[98]⟩⟩), .v (.int .i64 1), .v (.int .i64 4), .v (.int .i64 6)], .v (.int .i64 0)] (.tup [.sl [[.v (.string ⟨⟨[98]⟩⟩), .v (.int .i64 1), .v (.int .i64 4), .v (.int .i64 6)]], .v (.int .i64 0)]) := by
    have h := add_ok [] ⟨⟨⟨[98]⟩⟩, 1, 4, 6⟩ 0 (by decide); rw [exAdd1] at h; exact h
  have a2 : Pure Tryz.prog 12 [.sl [[.v (.string ⟨⟨[98]⟩⟩), .v (.int .i64 1), .v (.int .i64 4), .v (.int .i64 6)]], .agg [.v (.string ⟨⟨[97]⟩⟩), .v (.int .i64 1), .v (.int .i64 1), .v (.int .i64 4)], .v (.int .i64 0)] (.tup [.sl [[.v (.string ⟨⟨[97]⟩⟩), .v (.int .i64 1), .v (.int .i64 1), .v (.int .i64 4)], [.v (.string ⟨⟨[98]⟩⟩), .v (.int .i64 1), .v (.int .i64 4), .v (.int .i64 6)]], .v (.int .i64 0)]) := by
    have h := add_ok [⟨⟨⟨[98]⟩⟩, 1, 4, 6⟩] ⟨⟨⟨[97]⟩⟩, 1, 1, 4⟩ 0 (by decide); rw [exAdd2] at h; exact h
  have a3 : Pure Tryz.prog 12 [.sl [[.v (.string ⟨⟨[97]⟩⟩), .v (.int .i64 1), .v (.int .i64 1), .v (.int .i64 4)], [.v (.string ⟨⟨[98]⟩⟩), .v (.int .i64 1), .v (.int .i64 4), .v (.int .i64 6)]], .agg [.v (.string ⟨⟨[99]⟩⟩), .v (.int .i64 1), .v (.int .i64 5), .v (.int .i64 9)], .v (.int .i64 9)] (.tup [.sl [], .v (.int .i64 15)]) := by
    have h := add_ok [⟨⟨⟨[97]⟩⟩, 1, 1, 4⟩, ⟨⟨⟨[98]⟩⟩, 1, 4, 6⟩] ⟨⟨⟨[99]⟩⟩, 1, 5, 9⟩ 9 (by decide); rw [exAdd3] at h; exact h
  have a4 : Pure Tryz.prog 12 [.sl [[.v (.string ⟨⟨[97]⟩⟩), .v (.int .i64 1), .v (.int .i64 1), .v (.int .i64 4)], [.v (.string ⟨⟨[98]⟩⟩), .v (.int .i64 1), .v (.int .i64 4), .v (.int .i64 6)]], .agg [.v (.string ⟨⟨[97]⟩⟩), .v (.int .i64 1), .v (.int .i64 5), .v (.int .i64 9)], .v (.int .i64 8)] (.tup [.sl [], .v (.int .i64 7)]) := by
    have h := add_ok [⟨⟨⟨[97]⟩⟩, 1, 1, 4⟩, ⟨⟨⟨[98]⟩⟩, 1, 4, 6⟩] ⟨⟨⟨[97]⟩⟩, 1, 5, 9⟩ 8 (by decide); rw [exAdd4] at h; exact h
  have h0 : Pure Tryz.prog 30 [.v (.string ⟨⟨[98]⟩⟩), .v (.int .i64 4), .v (.int .i64 6)] (.agg [.v (.string ⟨⟨[98]⟩⟩), .v (.int .i64 1), .v (.int .i64 4), .v (.int .i64 6)]) := hot_ok (⟨⟨[98]⟩⟩ : ByteArray) 4 6
  have h1 : Pure Tryz.prog 30 [.v (.string ⟨⟨[97]⟩⟩), .v (.int .i64 1), .v (.int .i64 4)] (.agg [.v (.string ⟨⟨[97]⟩⟩), .v (.int .i64 1), .v (.int .i64 1), .v (.int .i64 4)]) := hot_ok (⟨⟨[97]⟩⟩ : ByteArray) 1 4
  have h2 : Pure Tryz.prog 30 [.v (.string ⟨⟨[99]⟩⟩), .v (.int .i64 5), .v (.int .i64 9)] (.agg [.v (.string ⟨⟨[99]⟩⟩), .v (.int .i64 1), .v (.int .i64 5), .v (.int .i64 9)]) := hot_ok (⟨⟨[99]⟩⟩ : ByteArray) 5 9
  have h3 : Pure Tryz.prog 30 [.v (.string ⟨⟨[97]⟩⟩), .v (.int .i64 5), .v (.int .i64 9)] (.agg [.v (.string ⟨⟨[97]⟩⟩), .v (.int .i64 1), .v (.int .i64 5), .v (.int .i64 9)]) := hot_ok (⟨⟨[97]⟩⟩ : ByteArray) 5 9
  have p1 : Pure Tryz.prog 21 [.sl [[.v (.string ⟨⟨[97]⟩⟩), .sl [[.v (.string ⟨⟨[98]⟩⟩)]], .v (.bool false)], [.v (.string ⟨⟨[98]⟩⟩), .nils, .v (.bool false)]], .v (.string ⟨⟨[97]⟩⟩)] (.tup [.sl [], .v (.int .i64 11)]) := by
    have h := pass_ok [⟨⟨⟨[97]⟩⟩, [⟨⟨[98]⟩⟩], false⟩, ⟨⟨⟨[98]⟩⟩, [], false⟩] (⟨⟨[97]⟩⟩ : ByteArray) (by decide) (fun i hi => by match i, hi with
      | 0, _ => decide
      | 1, _ => decide); rw [exPass1] at h; exact pure_nilc h rfl (fun i hi => by match i, hi with
      | 0, _ => rfl
      | 1, _ => rfl) (fun i j hi hj => by match i, hi, j, hj with
      | 0, _, 0, _ => exact .inl rfl
      | 0, _, 1, _ => exact .inl rfl
      | 0, _, 2, _ => exact .inl rfl
      | 1, _, 0, _ => exact .inl rfl
      | 1, _, 1, _ => exact .inr ⟨rfl, rfl⟩
      | 1, _, 2, _ => exact .inl rfl)
  have p2 : Pure Tryz.prog 21 [.sl [[.v (.string ⟨⟨[97]⟩⟩), .sl [[.v (.string ⟨⟨[98]⟩⟩)]], .v (.bool false)], [.v (.string ⟨⟨[98]⟩⟩), .nils, .v (.bool false)]], .v (.string ⟨⟨[98]⟩⟩)] (.tup [.sl [[.v (.string ⟨⟨[97]⟩⟩), .sl [[.v (.string ⟨⟨[98]⟩⟩)]], .v (.bool false)], [.v (.string ⟨⟨[98]⟩⟩), .sl [], .v (.bool true)]], .v (.int .i64 0)]) := by
    have h := pass_ok [⟨⟨⟨[97]⟩⟩, [⟨⟨[98]⟩⟩], false⟩, ⟨⟨⟨[98]⟩⟩, [], false⟩] (⟨⟨[98]⟩⟩ : ByteArray) (by decide) (fun i hi => by match i, hi with
      | 0, _ => decide
      | 1, _ => decide); rw [exPass2] at h; exact pure_nilc h rfl (fun i hi => by match i, hi with
      | 0, _ => rfl
      | 1, _ => rfl) (fun i j hi hj => by match i, hi, j, hj with
      | 0, _, 0, _ => exact .inl rfl
      | 0, _, 1, _ => exact .inl rfl
      | 0, _, 2, _ => exact .inl rfl
      | 1, _, 0, _ => exact .inl rfl
      | 1, _, 1, _ => exact .inr ⟨rfl, rfl⟩
      | 1, _, 2, _ => exact .inl rfl)
  have p3 : Pure Tryz.prog 21 [.sl [[.v (.string ⟨⟨[97]⟩⟩), .sl [[.v (.string ⟨⟨[98]⟩⟩)]], .v (.bool false)], [.v (.string ⟨⟨[98]⟩⟩), .sl [], .v (.bool true)]], .v (.string ⟨⟨[97]⟩⟩)] (.tup [.sl [[.v (.string ⟨⟨[97]⟩⟩), .sl [[.v (.string ⟨⟨[98]⟩⟩)]], .v (.bool true)], [.v (.string ⟨⟨[98]⟩⟩), .sl [], .v (.bool true)]], .v (.int .i64 0)]) := by
    have h := pass_ok [⟨⟨⟨[97]⟩⟩, [⟨⟨[98]⟩⟩], false⟩, ⟨⟨⟨[98]⟩⟩, [], true⟩] (⟨⟨[97]⟩⟩ : ByteArray) (by decide) (fun i hi => by match i, hi with
      | 0, _ => decide
      | 1, _ => decide); rw [exPass3] at h; exact h
  have k1 : Pure Tryz.prog 23 [.sl [[.v (.string ⟨⟨[97]⟩⟩), .sl [[.v (.string ⟨⟨[98]⟩⟩)]], .v (.bool false)], [.v (.string ⟨⟨[98]⟩⟩), .nils, .v (.bool false)]]] (.v (.int .i64 0)) := by
    have h := checkT_ok [⟨⟨⟨[97]⟩⟩, [⟨⟨[98]⟩⟩], false⟩, ⟨⟨⟨[98]⟩⟩, [], false⟩] (by decide) (fun i hi => by match i, hi with
      | 0, _ => decide
      | 1, _ => decide); rw [exChk1] at h; exact pure_nilc h rfl (fun i hi => by match i, hi with
      | 0, _ => rfl
      | 1, _ => rfl) (fun i j hi hj => by match i, hi, j, hj with
      | 0, _, 0, _ => exact .inl rfl
      | 0, _, 1, _ => exact .inl rfl
      | 0, _, 2, _ => exact .inl rfl
      | 1, _, 0, _ => exact .inl rfl
      | 1, _, 1, _ => exact .inr ⟨rfl, rfl⟩
      | 1, _, 2, _ => exact .inl rfl)
  have k2 : Pure Tryz.prog 23 [.sl [[.v (.string ⟨⟨[97]⟩⟩), .sl [[.v (.string ⟨⟨[98]⟩⟩)]], .v (.bool false)], [.v (.string ⟨⟨[98]⟩⟩), .sl [[.v (.string ⟨⟨[97]⟩⟩)]], .v (.bool false)]]] (.v (.int .i64 20)) := by
    have h := checkT_ok [⟨⟨⟨[97]⟩⟩, [⟨⟨[98]⟩⟩], false⟩, ⟨⟨⟨[98]⟩⟩, [⟨⟨[97]⟩⟩], false⟩] (by decide) (fun i hi => by match i, hi with
      | 0, _ => decide
      | 1, _ => decide); rw [exChk2] at h; exact h
  have s1 : Pure Tryz.prog 14 [.sl [[.v (.string ⟨⟨[97]⟩⟩), .v (.int .i64 1), .v (.int .i64 1), .v (.int .i64 4)], [.v (.string ⟨⟨[98]⟩⟩), .v (.int .i64 1), .v (.int .i64 4), .v (.int .i64 6)]], .sl [[.v (.string ⟨⟨[97]⟩⟩), .v (.int .i64 1), .v (.int .i64 1), .v (.int .i64 4)], [.v (.string ⟨⟨[98]⟩⟩), .v (.int .i64 1), .v (.int .i64 4), .v (.int .i64 6)]]] (.v (.bool true)) := samept_ok [⟨⟨⟨[97]⟩⟩, 1, 1, 4⟩, ⟨⟨⟨[98]⟩⟩, 1, 4, 6⟩] (by decide)
  have v1 : Pure Tryz.prog 15 [.sl [[.v (.string ⟨⟨[97]⟩⟩), .v (.int .i64 1), .v (.int .i64 1), .v (.int .i64 4)], [.v (.string ⟨⟨[98]⟩⟩), .v (.int .i64 1), .v (.int .i64 4), .v (.int .i64 6)]], .v (.int .i64 1), .v (.int .i64 4)] (.v (.bool true)) := by
    have h := valid_ok [⟨⟨⟨[97]⟩⟩, 1, 1, 4⟩, ⟨⟨⟨[98]⟩⟩, 1, 4, 6⟩] 1 4 (by decide); rw [exVal1] at h; exact h
  have v2 : Pure Tryz.prog 15 [.sl [[.v (.string ⟨⟨[97]⟩⟩), .v (.int .i64 1), .v (.int .i64 1), .v (.int .i64 4)], [.v (.string ⟨⟨[98]⟩⟩), .v (.int .i64 1), .v (.int .i64 4), .v (.int .i64 6)]], .v (.int .i64 2), .v (.int .i64 4)] (.v (.bool false)) := by
    have h := valid_ok [⟨⟨⟨[97]⟩⟩, 1, 1, 4⟩, ⟨⟨⟨[98]⟩⟩, 1, 4, 6⟩] 2 4 (by decide); rw [exVal2] at h; exact h
  have v3 : Pure Tryz.prog 15 [.sl [[.v (.string ⟨⟨[97]⟩⟩), .v (.int .i64 1), .v (.int .i64 1), .v (.int .i64 4)], [.v (.string ⟨⟨[98]⟩⟩), .v (.int .i64 1), .v (.int .i64 4), .v (.int .i64 6)]], .v (.int .i64 1), .v (.int .i64 6)] (.v (.bool false)) := by
    have h := valid_ok [⟨⟨⟨[97]⟩⟩, 1, 1, 4⟩, ⟨⟨⟨[98]⟩⟩, 1, 4, 6⟩] 1 6 (by decide); rw [exVal3] at h; exact h
  have w1 : Pure Tryz.prog 18 [.sl [[.v (.string ⟨⟨[97]⟩⟩), .v (.int .i64 1), .v (.int .i64 1), .v (.int .i64 4)], [.v (.string ⟨⟨[98]⟩⟩), .v (.int .i64 1), .v (.int .i64 4), .v (.int .i64 6)]], .v (.int .i64 1), .agg [.v (.int .i64 0), .v (.int .i64 5)]] (.sl [[.v (.int .i64 1), .v (.int .i64 5)]]) := by
    have h := (cover_ok [⟨⟨⟨[97]⟩⟩, 1, 1, 4⟩, ⟨⟨⟨[98]⟩⟩, 1, 4, 6⟩] 1 ⟨0, 5⟩ (by decide)).pure; rw [exCov] at h; exact h
  have w2 : Pure Tryz.prog 17 [.sl [[.v (.int .i64 1), .v (.int .i64 5)]], .sl [[.v (.int .i64 1), .v (.int .i64 5)]]] (.v (.bool true)) := samesp_ok [⟨1, 5⟩] (by decide)
  have l1 : Pure Tryz.prog 27 [.sl [[.v (.string ⟨⟨[97]⟩⟩), .sl [[.v (.string ⟨⟨[98]⟩⟩)]], .v (.bool false)], [.v (.string ⟨⟨[98]⟩⟩), .sl [], .v (.bool true)]]] (.sl [[.v (.string ⟨⟨[97]⟩⟩)]]) := (left_ok [⟨⟨⟨[97]⟩⟩, [⟨⟨[98]⟩⟩], false⟩, ⟨⟨⟨[98]⟩⟩, [], true⟩] (by decide)).pure
  have l2 : Pure Tryz.prog 27 [.sl [[.v (.string ⟨⟨[97]⟩⟩), .sl [[.v (.string ⟨⟨[98]⟩⟩)]], .v (.bool true)], [.v (.string ⟨⟨[98]⟩⟩), .sl [], .v (.bool true)]]] (.sl []) := (left_ok [⟨⟨⟨[97]⟩⟩, [⟨⟨[98]⟩⟩], true⟩, ⟨⟨⟨[98]⟩⟩, [], true⟩] (by decide)).pure
  have l3 : Pure Tryz.prog 26 [.sl [[.v (.string ⟨⟨[97]⟩⟩)]], .sl [[.v (.string ⟨⟨[97]⟩⟩)]]] (.v (.bool true)) := samest_ok [(⟨⟨[97]⟩⟩ : ByteArray)] (by decide)
  refine fn_pure Tryz.F11 (Nat.le_of_ble_eq_true rfl) ?_; unfold Tryz.ac11
  repeat' (first
 | (apply Awp.sreg; (case hn => (simp only [List.length_cons, List.length_nil, Nat.reduceAdd] <;> rfl)))
 | (refine st_nil ?_)
 | (apply st_full (d := some 39); (case hr => (simp only [go_sem, *] <;> rfl)); (case hn => (simp; done)); (case hp => (first | (simp; done))))
 | (apply st_full (d := some 42); (case hr => (simp only [go_sem, *] <;> rfl)); (case hn => (simp; done)); (case hp => (first | (simp; done))))
 | (apply st_fullg (d := some 90); (case hv => (simp only [go_sem, *] <;> rfl)); (case hr => (simp only [go_sem, *] <;> rfl)); (case hn => (simp; done)); (case hp => (first | (simp; done))))
 | (apply st_fullg (d := some 92); (case hv => (simp only [go_sem, *] <;> rfl)); (case hr => (simp only [go_sem, *] <;> rfl)); (case hn => (simp; done)); (case hp => (first | (simp; done))))
 | (apply st_fullg (d := some 94); (case hv => (simp only [go_sem, *] <;> rfl)); (case hr => (simp only [go_sem, *] <;> rfl)); (case hn => (simp; done)); (case hp => (first | (simp; done))))
 | (apply st_a; (case hc => rfl); (case he => (simp only [go_sem, *] <;> rfl)); (case hu => (simp only [updL_nil, updL_cons] <;> rfl)); (case hp => first | trivial | (simp; done)))
 | (apply st_m; (case hc => rfl); (case hg => (simp only [go_sem, *] <;> rfl)); (case he => (intro hQz; (try simp only [wantB_t, wantB_f, Bool.and_eq_true, Bool.not_eq_true', Bool.not_true, Bool.not_false, and_true, true_and] at hQz); simp only [go_sem, *] <;> rfl)); (case hp => (intro hQz; (try simp only [wantB_t, wantB_f, Bool.and_eq_true, Bool.not_eq_true', Bool.or_eq_false_iff, decide_eq_true_eq, decide_eq_false_iff_not, beq_iff_eq, beq_eq_false_iff_ne, bne_iff_ne, bne_eq_false_iff_eq, Int.not_lt, Int.not_le, Int.ofNat_lt, Int.ofNat_le] at hQz); first | trivial)))
 | (apply st_c; (case hc => (simp only [go_sem, *] <;> rfl)); (case hl => (simp only [go_sem, *] <;> rfl)); (case hn => (simp only [go_sem, *] <;> rfl)); (case hp => first | exact h0 | (have hXz := h0; simp only [go_sem, *] at hXz; exact hXz)))
 | (apply st_c; (case hc => (simp only [go_sem, *] <;> rfl)); (case hl => (simp only [go_sem, *] <;> rfl)); (case hn => (simp only [go_sem, *] <;> rfl)); (case hp => first | exact h1 | (have hXz := h1; simp only [go_sem, *] at hXz; exact hXz)))
 | (apply st_c; (case hc => (simp only [go_sem, *] <;> rfl)); (case hl => (simp only [go_sem, *] <;> rfl)); (case hn => (simp only [go_sem, *] <;> rfl)); (case hp => first | exact h2 | (have hXz := h2; simp only [go_sem, *] at hXz; exact hXz)))
 | (apply st_c; (case hc => (simp only [go_sem, *] <;> rfl)); (case hl => (simp only [go_sem, *] <;> rfl)); (case hn => (simp only [go_sem, *] <;> rfl)); (case hp => first | exact h3 | (have hXz := h3; simp only [go_sem, *] at hXz; exact hXz)))
 | (apply st_c; (case hc => (simp only [go_sem, *] <;> rfl)); (case hl => (simp only [go_sem, *] <;> rfl)); (case hn => (simp only [go_sem, *] <;> rfl)); (case hp => first | exact a1 | (have hXz := a1; simp only [go_sem, *] at hXz; exact hXz)))
 | (apply st_c; (case hc => (simp only [go_sem, *] <;> rfl)); (case hl => (simp only [go_sem, *] <;> rfl)); (case hn => (simp only [go_sem, *] <;> rfl)); (case hp => first | exact a2 | (have hXz := a2; simp only [go_sem, *] at hXz; exact hXz)))
 | (apply st_c; (case hc => (simp only [go_sem, *] <;> rfl)); (case hl => (simp only [go_sem, *] <;> rfl)); (case hn => (simp only [go_sem, *] <;> rfl)); (case hp => first | exact a3 | (have hXz := a3; simp only [go_sem, *] at hXz; exact hXz)))
 | (apply st_c; (case hc => (simp only [go_sem, *] <;> rfl)); (case hl => (simp only [go_sem, *] <;> rfl)); (case hn => (simp only [go_sem, *] <;> rfl)); (case hp => first | exact a4 | (have hXz := a4; simp only [go_sem, *] at hXz; exact hXz)))
 | (apply st_c; (case hc => (simp only [go_sem, *] <;> rfl)); (case hl => (simp only [go_sem, *] <;> rfl)); (case hn => (simp only [go_sem, *] <;> rfl)); (case hp => first | exact p1 | (have hXz := p1; simp only [go_sem, *] at hXz; exact hXz)))
 | (apply st_c; (case hc => (simp only [go_sem, *] <;> rfl)); (case hl => (simp only [go_sem, *] <;> rfl)); (case hn => (simp only [go_sem, *] <;> rfl)); (case hp => first | exact p2 | (have hXz := p2; simp only [go_sem, *] at hXz; exact hXz)))
 | (apply st_c; (case hc => (simp only [go_sem, *] <;> rfl)); (case hl => (simp only [go_sem, *] <;> rfl)); (case hn => (simp only [go_sem, *] <;> rfl)); (case hp => first | exact p3 | (have hXz := p3; simp only [go_sem, *] at hXz; exact hXz)))
 | (apply st_mc; (case hop => rfl); (case hg => (simp only [go_sem, *] <;> rfl)); (case hc => (intro hQz; (try simp only [wantB_t, wantB_f, Bool.and_eq_true, Bool.not_eq_true', Bool.not_true, Bool.not_false, and_true, true_and] at hQz); simp only [go_sem, *] <;> rfl)); (case hl => (intro hQz; (try simp only [wantB_t, wantB_f, Bool.and_eq_true, Bool.not_eq_true', Bool.not_true, Bool.not_false, and_true, true_and] at hQz); simp only [go_sem, *] <;> rfl)); (case hn => (intro hQz; (try simp only [wantB_t, wantB_f, Bool.and_eq_true, Bool.not_eq_true', Bool.not_true, Bool.not_false, and_true, true_and] at hQz); simp only [go_sem, *] <;> rfl)); (case hp => intro hQz; first | exact k1 | (have hXz := k1; simp only [go_sem, *] at hXz; exact hXz)))
 | (apply st_mc; (case hop => rfl); (case hg => (simp only [go_sem, *] <;> rfl)); (case hc => (intro hQz; (try simp only [wantB_t, wantB_f, Bool.and_eq_true, Bool.not_eq_true', Bool.not_true, Bool.not_false, and_true, true_and] at hQz); simp only [go_sem, *] <;> rfl)); (case hl => (intro hQz; (try simp only [wantB_t, wantB_f, Bool.and_eq_true, Bool.not_eq_true', Bool.not_true, Bool.not_false, and_true, true_and] at hQz); simp only [go_sem, *] <;> rfl)); (case hn => (intro hQz; (try simp only [wantB_t, wantB_f, Bool.and_eq_true, Bool.not_eq_true', Bool.not_true, Bool.not_false, and_true, true_and] at hQz); simp only [go_sem, *] <;> rfl)); (case hp => intro hQz; first | exact k2 | (have hXz := k2; simp only [go_sem, *] at hXz; exact hXz)))
 | (apply st_cd; (case hc => (simp only [go_sem, *] <;> rfl)); (case hl => (simp only [go_sem, *] <;> rfl)); (case hn => (simp only [go_sem, *] <;> rfl)); (case hp => first | exact s1 | (have hXz := s1; simp only [go_sem, *] at hXz; exact hXz)); (case hd => first | exact .v _ | exact .any | exact .nils | (repeat' (first | exact Dry.v _ | exact Dry.any | exact Dry.nils | exact Dry.slE | refine Dry.agg ?_ | refine Dry.tup ?_ | (refine List.forall_mem_cons.2 (And.intro ?_ ?_)) | (intro cQ hQ; cases hQ; done)))); (case hm => first | decide | (simp; done)))
 | (apply st_mc; (case hop => rfl); (case hg => (simp only [go_sem, *] <;> rfl)); (case hc => (intro hQz; (try simp only [wantB_t, wantB_f, Bool.and_eq_true, Bool.not_eq_true', Bool.not_true, Bool.not_false, and_true, true_and] at hQz); simp only [go_sem, *] <;> rfl)); (case hl => (intro hQz; (try simp only [wantB_t, wantB_f, Bool.and_eq_true, Bool.not_eq_true', Bool.not_true, Bool.not_false, and_true, true_and] at hQz); simp only [go_sem, *] <;> rfl)); (case hn => (intro hQz; (try simp only [wantB_t, wantB_f, Bool.and_eq_true, Bool.not_eq_true', Bool.not_true, Bool.not_false, and_true, true_and] at hQz); simp only [go_sem, *] <;> rfl)); (case hp => intro hQz; first | exact v1 | (have hXz := v1; simp only [go_sem, *] at hXz; exact hXz)))
 | (apply st_mc; (case hop => rfl); (case hg => (simp only [go_sem, *] <;> rfl)); (case hc => (intro hQz; (try simp only [wantB_t, wantB_f, Bool.and_eq_true, Bool.not_eq_true', Bool.not_true, Bool.not_false, and_true, true_and] at hQz); simp only [go_sem, *] <;> rfl)); (case hl => (intro hQz; (try simp only [wantB_t, wantB_f, Bool.and_eq_true, Bool.not_eq_true', Bool.not_true, Bool.not_false, and_true, true_and] at hQz); simp only [go_sem, *] <;> rfl)); (case hn => (intro hQz; (try simp only [wantB_t, wantB_f, Bool.and_eq_true, Bool.not_eq_true', Bool.not_true, Bool.not_false, and_true, true_and] at hQz); simp only [go_sem, *] <;> rfl)); (case hp => intro hQz; first | exact v2 | (have hXz := v2; simp only [go_sem, *] at hXz; exact hXz)))
 | (apply st_mc; (case hop => rfl); (case hg => (simp only [go_sem, *] <;> rfl)); (case hc => (intro hQz; (try simp only [wantB_t, wantB_f, Bool.and_eq_true, Bool.not_eq_true', Bool.not_true, Bool.not_false, and_true, true_and] at hQz); simp only [go_sem, *] <;> rfl)); (case hl => (intro hQz; (try simp only [wantB_t, wantB_f, Bool.and_eq_true, Bool.not_eq_true', Bool.not_true, Bool.not_false, and_true, true_and] at hQz); simp only [go_sem, *] <;> rfl)); (case hn => (intro hQz; (try simp only [wantB_t, wantB_f, Bool.and_eq_true, Bool.not_eq_true', Bool.not_true, Bool.not_false, and_true, true_and] at hQz); simp only [go_sem, *] <;> rfl)); (case hp => intro hQz; first | exact v3 | (have hXz := v3; simp only [go_sem, *] at hXz; exact hXz)))
 | (apply st_mc; (case hop => rfl); (case hg => (simp only [go_sem, *] <;> rfl)); (case hc => (intro hQz; (try simp only [wantB_t, wantB_f, Bool.and_eq_true, Bool.not_eq_true', Bool.not_true, Bool.not_false, and_true, true_and] at hQz); simp only [go_sem, *] <;> rfl)); (case hl => (intro hQz; (try simp only [wantB_t, wantB_f, Bool.and_eq_true, Bool.not_eq_true', Bool.not_true, Bool.not_false, and_true, true_and] at hQz); simp only [go_sem, *] <;> rfl)); (case hn => (intro hQz; (try simp only [wantB_t, wantB_f, Bool.and_eq_true, Bool.not_eq_true', Bool.not_true, Bool.not_false, and_true, true_and] at hQz); simp only [go_sem, *] <;> rfl)); (case hp => intro hQz; first | exact w1 | (have hXz := w1; simp only [go_sem, *] at hXz; exact hXz)))
 | (apply st_cd; (case hc => (simp only [go_sem, *] <;> rfl)); (case hl => (simp only [go_sem, *] <;> rfl)); (case hn => (simp only [go_sem, *] <;> rfl)); (case hp => first | exact w2 | (have hXz := w2; simp only [go_sem, *] at hXz; exact hXz)); (case hd => first | exact .v _ | exact .any | exact .nils | (repeat' (first | exact Dry.v _ | exact Dry.any | exact Dry.nils | exact Dry.slE | refine Dry.agg ?_ | refine Dry.tup ?_ | (refine List.forall_mem_cons.2 (And.intro ?_ ?_)) | (intro cQ hQ; cases hQ; done)))); (case hm => first | decide | (simp; done)))
 | (apply st_mc; (case hop => rfl); (case hg => (simp only [go_sem, *] <;> rfl)); (case hc => (intro hQz; (try simp only [wantB_t, wantB_f, Bool.and_eq_true, Bool.not_eq_true', Bool.not_true, Bool.not_false, and_true, true_and] at hQz); simp only [go_sem, *] <;> rfl)); (case hl => (intro hQz; (try simp only [wantB_t, wantB_f, Bool.and_eq_true, Bool.not_eq_true', Bool.not_true, Bool.not_false, and_true, true_and] at hQz); simp only [go_sem, *] <;> rfl)); (case hn => (intro hQz; (try simp only [wantB_t, wantB_f, Bool.and_eq_true, Bool.not_eq_true', Bool.not_true, Bool.not_false, and_true, true_and] at hQz); simp only [go_sem, *] <;> rfl)); (case hp => intro hQz; first | exact l1 | (have hXz := l1; simp only [go_sem, *] at hXz; exact hXz)))
 | (apply st_mc; (case hop => rfl); (case hg => (simp only [go_sem, *] <;> rfl)); (case hc => (intro hQz; (try simp only [wantB_t, wantB_f, Bool.and_eq_true, Bool.not_eq_true', Bool.not_true, Bool.not_false, and_true, true_and] at hQz); simp only [go_sem, *] <;> rfl)); (case hl => (intro hQz; (try simp only [wantB_t, wantB_f, Bool.and_eq_true, Bool.not_eq_true', Bool.not_true, Bool.not_false, and_true, true_and] at hQz); simp only [go_sem, *] <;> rfl)); (case hn => (intro hQz; (try simp only [wantB_t, wantB_f, Bool.and_eq_true, Bool.not_eq_true', Bool.not_true, Bool.not_false, and_true, true_and] at hQz); simp only [go_sem, *] <;> rfl)); (case hp => intro hQz; first | exact l2 | (have hXz := l2; simp only [go_sem, *] at hXz; exact hXz)))
 | (apply st_cd; (case hc => (simp only [go_sem, *] <;> rfl)); (case hl => (simp only [go_sem, *] <;> rfl)); (case hn => (simp only [go_sem, *] <;> rfl)); (case hp => first | exact l3 | (have hXz := l3; simp only [go_sem, *] at hXz; exact hXz)); (case hd => first | exact .v _ | exact .any | exact .nils | (repeat' (first | exact Dry.v _ | exact Dry.any | exact Dry.nils | exact Dry.slE | refine Dry.agg ?_ | refine Dry.tup ?_ | (refine List.forall_mem_cons.2 (And.intro ?_ ?_)) | (intro cQ hQ; cases hQ; done)))); (case hm => first | decide | (simp; done)))
 | (apply st_g; (case hv => (simp only [go_sem, *] <;> rfl)); all_goals (intro hg; (try simp only [Bool.not_true, Bool.not_false, reduceCtorEq] at hg); (try have hg' := hg); (try simp only [decide_eq_true_eq, decide_eq_false_iff_not, Bool.and_eq_true, Bool.or_eq_false_iff, bne_iff_ne, bne_eq_false_iff_eq, beq_iff_eq, beq_eq_false_iff_ne, Int.not_lt, Int.not_le, Int.ofNat_lt, Int.ofNat_le, Int.natCast_inj] at hg')))
 | (refine Awp.ret ?_; try simp only [go_sem, *])
 | (refine Awp.skip ?_; try simp only [go_sem, *])
 | (apply Awp.cond; (case hc => (simp only [go_sem, *] <;> rfl)); all_goals (intro hg; (try simp only [Bool.not_true, Bool.not_false, reduceCtorEq] at hg); (try have hg' := hg); (try simp only [decide_eq_true_eq, decide_eq_false_iff_not, Bool.and_eq_true, Bool.or_eq_false_iff, bne_iff_ne, bne_eq_false_iff_eq, beq_iff_eq, beq_eq_false_iff_ne, Int.not_lt, Int.not_le, Int.ofNat_lt, Int.ofNat_le, Int.natCast_inj] at hg')))
 | refine Awp.seq ?_)
  all_goals repeat' (first | exact Lower.bool (by first | rfl | (simp only [true_and, Bool.true_and, Bool.false_and, Bool.and_true, Bool.and_false, Bool.true_or, Bool.false_or, reduceIte, Bool.false_eq_true, *]; done) | (simp only [true_and, reduceIte, Bool.false_eq_true, *] <;> rfl) | (simp [true_and]; done) | (simp_all [true_and]; done) | omega))
end Go.Proofs
end
section
set_option linter.unusedVariables false
set_option linter.unusedSimpArgs false
namespace Go.Ab
open Go.ChangeShapes Go.WideShapes Go.RowKit

theorem Keeps.below {W W' : World} (h : Keeps W W') : Below W.heap.size W W' := ⟨h.os, h.tape, h.out, h.size, h.heap⟩

section
variable {H : Type} {enc : TypeId × Value → H} {P : Program}

theorem trodAll_keeps (hl : laidOutB P = true) {W W' : World} {sp : Nat → Bool} (hb : Below W.heap.size W W') :
    ∀ {ts : List TypeId} {vs : List Value} {ds : List (DataW H)} {ps : List MemPlace}, (∀ t ∈ ts, P.readableRec t = true ∧ t < P.types.size) → (∀ x ∈ ps, x.block < W.heap.size) → (∀ x ∈ ps, sp x.block = true) →
      DataW.TrodAll enc P W 0 (fun _ => true) true ts vs ds ps → DataW.TrodAll enc P W' 0 sp true ts vs ds ps
  | [], _, _, _, _, _, _, h => by
    obtain ⟨rfl, rfl, rfl⟩ := trodAll_nil h
    exact trodAll_mk0
  | t :: ts, _, _, _, hts, hlt, hsp, h => by
    obtain ⟨v, vs, d, ds, a, b, rfl, rfl, rfl, h1, h2⟩ := trodAll_cons h
    obtain ⟨hr, hrow⟩ := hts t (List.mem_cons.2 (.inl rfl))
    refine trodAll_cons_mk (WideElems.Trod_stays hl hr hrow h1 (fun x hx => hb.same (hlt x ?_)) (fun x hx => hsp x ?_)) (trodAll_keeps hl hb (fun u hu => hts u (List.mem_cons.2 (.inr hu))) (fun x hx => hlt x ?_) (fun x hx => hsp x ?_) h2)
    all_goals simp [hx]

theorem post_true {f : Func} {s : ChangeSpec} {apart fresh handsOn again : Bool} {W W' : World} {args : Array Value} {ds gs : List (DataW H)} {before : List MemPlace} {tb : TypeId}
    (hl : laidOutB P = true) (htb' : (f.params.toList.all fun t => P.readableRec t && decide (t < P.types.size)) = true) (hrt : f.resultTypes = #[tb]) (htb : P.underlying tb = some .bool) (hs : s.vars = [])
    (hW : DataW.Whole enc P f.params.toList s.vars apart W args.toList ds gs before) (hb : Below W.heap.size W W')
    (hf : (s.fn H (ds ++ gs)).results = [.lit (.bool true)] ∧ (s.fn H (ds ++ gs)).args = ds ∧ (s.fn H (ds ++ gs)).vars = []) :
    s.post enc P f apart fresh handsOn again W args (.bool true) W' := by
  have hts : ∀ t ∈ f.params.toList, P.readableRec t = true ∧ t < P.types.size := fun t ht => by simpa using List.all_eq_true.1 htb' t ht
  have hW' := hW
  obtain ⟨p, q, hA, hV, hpq, hz, hn⟩ := hW
  have hV0 : gs = [] ∧ q = [] := by rw [hs] at hV; exact trodVars_none hV
  obtain ⟨rfl, rfl⟩ := hV0
  obtain rfl : before = p := by simpa using hpq
  obtain ⟨f1, f2, f3⟩ := hf
  have hlt : ∀ x ∈ before, x.block < W.heap.size := fun x hx => hW'.lt x hx
  have hargs : ∀ sp : Nat → Bool, (∀ x ∈ before, sp x.block = true) → DataW.TrodAll enc P W' 0 sp true f.params.toList args.toList (s.fn H (ds ++ [])).args before := fun sp hsp => by
    rw [f2]; exact trodAll_keeps hl hb hts hlt hsp hA
  have hvars : ∀ sp : Nat → Bool, DataW.TrodVars enc P W' sp s.vars (s.fn H (ds ++ [])).vars [] := fun sp => by rw [f3, hs]; rfl
  have hres : ∀ (b : Nat) (sp : Nat → Bool) (hd : Bool), DataW.TrodAll enc P W' b sp hd f.resultTypes.toList ((Value.bool true).resultList f.resultTypes.size) (s.fn H (ds ++ [])).results [] := fun b sp hd => by
    rw [f1, hrt]; exact trodAll_cons_mk (shut_bool htb _) trodAll_mk0
  have hold : ∀ x ∈ before, (fun b => decide (b < W.heap.size)) x.block = true := fun x hx => by simpa using hlt x hx
  refine ⟨ds, [], before, [], before, [], hW', hres _ _ _, hargs _ hold, hvars _, World.keptBut_mono (fun x hx => ⟨hx, .inr (by simpa using hx)⟩) (hb.frame (· ∈ before)), fun _ => ⟨?_, _, _, ([] ++ before) ++ [], ⟨[] ++ before, [], trodAll_append (hargs _ fun _ _ => rfl) (hres _ _ _), hvars _, rfl, ?_, ?_⟩, ?_⟩⟩
  · exact ok_one hrt rfl (okWide_bool_mk htb _)
  · intro b off hp
    have hp' : MemPlace.cell b off ∈ before := by simpa using hp
    rw [hb.frozen (p := ⟨b, off, none⟩) (hlt _ hp')]
    exact hz b off hp'
  · intro ha
    simpa using hn ha
  · intro x hx _
    simpa using hx

theorem pargs1 {w : World} {a0 : AV} {c0 : Value} (h0 : PureV (fun g => g < w.heap.size ∧ True) w a0 c0) : PArgs (fun _ => True) w [a0] [c0] :=
  ⟨rfl, fun j hj => by match j, hj with | 0, _ => exact h0⟩
theorem pargs2 {w : World} {a0 a1 : AV} {c0 c1 : Value} (h0 : PureV (fun g => g < w.heap.size ∧ True) w a0 c0) (h1 : PureV (fun g => g < w.heap.size ∧ True) w a1 c1) : PArgs (fun _ => True) w [a0, a1] [c0, c1] :=
  ⟨rfl, fun j hj => by match j, hj with | 0, _ => exact h0 | 1, _ => exact h1⟩
/-- A contract that says 'true', at a call whose arguments read so: the row's 'post'. -/
theorem calls_true {f : Func} {fid : FuncId} {s : ChangeSpec} {apart fresh handsOn again : Bool} {W : World} {asz : List AV} {cs : List Value} {ds gs : List (DataW H)} {before : List MemPlace} {tb : TypeId}
    (hl : laidOutB P = true) (htb' : (f.params.toList.all fun t => P.readableRec t && decide (t < P.types.size)) = true) (hrt : f.resultTypes = #[tb]) (htb : P.underlying tb = some .bool) (hs : s.vars = [])
    (hW : DataW.Whole enc P f.params.toList s.vars apart W cs.toArray.toList ds gs before) (hf : (s.fn H (ds ++ gs)).results = [.lit (.bool true)] ∧ (s.fn H (ds ++ gs)).args = ds ∧ (s.fn H (ds ++ gs)).vars = [])
    (hc : Pure P fid asz (.v (.bool true))) (ha : PArgs (fun _ => True) W asz cs) :
    Calls P fid cs.toArray W fun e W' => ∃ v, e = .returned v ∧ s.post enc P f apart fresh handsOn again W cs.toArray v W' := by
  refine (hc.2 _ W cs ha).mono fun e W' ⟨c, he, hk, hv⟩ => ?_
  obtain rfl : c = .bool true := by cases hv; rfl
  exact ⟨_, he, post_true hl htb' hrt htb hs hW hk.below hf⟩
end
end Go.Ab
end
section
set_option linter.unusedVariables false
set_option linter.unusedSimpArgs false
namespace Go.Ab
open Go.ChangeShapes Go.WideShapes Go.RowKit

/-- Fields that lie one behind the other. -/
def tiledTo (P : Program) (off : Nat) : List Field → Nat → Bool
  | [], e => off == e
  | f :: fs, e => f.offset == off && tiledTo P (off + P.cellsOf f.type) fs e

def readsTy (P : Program) : Nat → TypeId → Bool
  | 0, _ => false
  | n + 1, t => match P.underlying t with
    | some (.int _) | some .bool | some .string => P.cellsOf t == 1
    | some (.struct fs) => tiledTo P 0 fs.toList (P.cellsOf t) && fs.toList.all fun f => readsTy P n f.type
    | some (.slice e) => P.cellsOf t == 1 && decide (0 < P.cellsOf e) && readsTy P n e
    | some (.array k e) => P.cellsOf t == k * P.cellsOf e && readsTy P n e
    | _ => false

def FieldsShape (S : TypeId → List AV → Prop) : List TypeId → List AV → Prop
  | [], asz => asz = []
  | t :: ts, asz => ∃ p q, asz = p ++ q ∧ S t p ∧ FieldsShape S ts q

/-- The cells of a value of a type. -/
def Shape (P : Program) : Nat → TypeId → List AV → Prop
  | 0, _, _ => False
  | n + 1, t, asz => match P.underlying t with
    | some (.int k) => ∃ i, asz = [.v (.int k i)] ∧ (Lit.int k i).wf = true
    | some .bool => ∃ b, asz = [.v (.bool b)]
    | some .string => ∃ s : ByteArray, asz = [.v (.string s)] ∧ s.size ≤ maxLen
    | some (.struct fs) => FieldsShape (Shape P n) (fs.toList.map (·.type)) asz
    | some (.slice e) => ∃ es, asz = [.sl es] ∧ es.length ≤ maxLen ∧ ∀ r ∈ es, Shape P n e r
    | some (.array k e) => ∃ rs : List (List AV), asz = rs.flatten ∧ rs.length = k ∧ ∀ r ∈ rs, Shape P n e r
    | _ => False

theorem av_append_left {p q : List AV} {j : Nat} (h : j < p.length) : av (p ++ q) j = av p j := by
  simp [av, List.getD_eq_getElem?_getD, List.getElem?_append_left h]
theorem av_append_right {p q : List AV} {j : Nat} (h : p.length ≤ j) : av (p ++ q) j = av q (j - p.length) := by
  simp [av, List.getD_eq_getElem?_getD, List.getElem?_append_right h]
theorem cv_piece {cs : List Value} {o k j : Nat} (h : j < k) : cv ((cs.drop o).take k) j = cv cs (o + j) := by
  simp [cv, List.getD_eq_getElem?_getD, List.getElem?_take_of_lt h, List.getElem?_drop]

theorem lists {α : Type} {Q : Nat → α → Prop} : ∀ (n : Nat), (∀ i, i < n → ∃ a, Q i a) → ∃ l : List α, l.length = n ∧ ∀ i a, l[i]? = some a → Q i a
  | 0, _ => ⟨[], rfl, fun i a h => by simp at h⟩
  | n + 1, h => by
    obtain ⟨l, hl, hq⟩ := lists n fun i hi => h i (by omega)
    obtain ⟨a, ha⟩ := h n (by omega)
    refine ⟨l ++ [a], by simp [hl], fun i b hb => ?_⟩
    rcases Nat.lt_or_ge i n with hi | hi
    · rw [List.getElem?_append_left (by omega)] at hb; exact hq i b hb
    · rw [List.getElem?_append_right (by omega)] at hb
      by_cases e : i - l.length = 0
      · rw [e] at hb
        obtain rfl : a = b := by simpa using hb
        obtain rfl : i = n := by omega
        exact ha
      · rw [List.getElem?_eq_none (by simp; omega)] at hb; simp at hb

def CellsOk (w : World) (asz : List AV) (cs : List Value) (o : Nat) : Prop :=
  ∀ j, j < asz.length → PureV (fun g => g < w.heap.size) w (av asz j) (cv cs (o + j)) ∧ (cv cs (o + j)).oneCell' = true

theorem CellsOk.append {w : World} {p q : List AV} {cs : List Value} {o : Nat} (h1 : CellsOk w p cs o) (h2 : CellsOk w q cs (o + p.length)) : CellsOk w (p ++ q) cs o := by
  intro j hj
  rcases Nat.lt_or_ge j p.length with h | h
  · rw [av_append_left h]; exact h1 j h
  · rw [av_append_right h]
    have := h2 (j - p.length) (by simp at hj; omega)
    rwa [show o + p.length + (j - p.length) = o + j by omega] at this

section
variable {H : Type} {enc : TypeId × Value → H} {P : Program} {w : World} {spare : Nat → Bool} {held : Bool}

theorem read_fields {S : TypeId → List AV → Prop} {cs : List Value} : ∀ (fs : List Field) (o e : Nat), tiledTo P o fs e = true → e ≤ cs.length →
    (∀ f ∈ fs, ∃ asz, S f.type asz ∧ asz.length = P.cellsOf f.type ∧ CellsOk w asz cs f.offset) → ∃ asz, FieldsShape S (fs.map (·.type)) asz ∧ o + asz.length = e ∧ CellsOk w asz cs o
  | [], o, e, ht, _, _ => ⟨[], rfl, by simpa [tiledTo] using ht, fun j hj => by simp at hj⟩
  | f :: fs, o, e, ht, he, hf => by
    simp only [tiledTo, Bool.and_eq_true, beq_iff_eq] at ht
    obtain ⟨p, hp, hpl, hpc⟩ := hf f (List.mem_cons.2 (.inl rfl))
    obtain ⟨q, hq, hql, hqc⟩ := read_fields fs _ e ht.2 he fun g hg => hf g (List.mem_cons.2 (.inr hg))
    rw [ht.1] at hpc
    rw [← hpl] at hqc hql
    exact ⟨p ++ q, ⟨p, q, rfl, hp, hq⟩, by simp; omega, hpc.append hqc⟩

theorem read_rows {S : List AV → Prop} {cs : List Value} {sz : Nat} : ∀ (k o : Nat),
    (∀ i, i < k → ∃ asz, S asz ∧ asz.length = sz ∧ CellsOk w asz cs (o + i * sz)) → ∃ rs : List (List AV), rs.length = k ∧ (∀ r ∈ rs, S r) ∧ rs.flatten.length = k * sz ∧ CellsOk w rs.flatten cs o
  | 0, o, _ => ⟨[], rfl, by simp, by simp, fun j hj => by simp at hj⟩
  | k + 1, o, h => by
    obtain ⟨p, hp, hpl, hpc⟩ := h 0 (by omega)
    obtain ⟨rs, hl, hs, hf, hc⟩ := read_rows k (o + sz) fun i hi => by
      obtain ⟨asz, h1, h2, h3⟩ := h (i + 1) (by omega)
      exact ⟨asz, h1, h2, by rwa [show o + sz + i * sz = o + (i + 1) * sz by rw [Nat.add_mul]; omega]⟩
    refine ⟨p :: rs, by simp [hl], fun r hr => ?_, by simp [hf, hpl, Nat.add_mul, Nat.add_comm], ?_⟩
    · rcases List.mem_cons.1 hr with rfl | hr
      · exact hp
      · exact hs r hr
    · simp only [List.flatten_cons]
      refine CellsOk.append (by simpa using hpc) (by rw [hpl]; exact hc)

theorem read_ty : ∀ (n : Nat) (t : TypeId), readsTy P n t = true → ∀ {fuel : Nat} {cs : List Value} {x : DataW H × List MemPlace}, DataW.trod enc P w 0 spare held fuel t cs = some x →
    cs.length = P.cellsOf t ∧ ∃ asz, Shape P n t asz ∧ asz.length = cs.length ∧ CellsOk w asz cs 0
  | 0, t, ht, _, _, _, _ => by simp [readsTy] at ht
  | n + 1, t, ht, fuel, cs, x, h => by
    unfold readsTy at ht
    unfold Shape
    split at ht
    · rename_i k hu
      obtain ⟨i, rfl, _, hw⟩ := DataW.trod_int hu h
      exact ⟨by simpa using (by simpa using ht : P.cellsOf t = 1).symm, _, ⟨i, rfl, hw⟩, rfl, fun j hj => by match j, hj with | 0, _ => exact ⟨.v _, rfl⟩⟩
    · rename_i hu
      obtain ⟨b, rfl, _⟩ := DataW.trod_bool hu h
      exact ⟨by simpa using (by simpa using ht : P.cellsOf t = 1).symm, _, ⟨b, rfl⟩, rfl, fun j hj => by match j, hj with | 0, _ => exact ⟨.v _, rfl⟩⟩
    · rename_i hu
      obtain ⟨s, rfl, _, hw⟩ := DataW.trod_string hu h
      exact ⟨by simpa using (by simpa using ht : P.cellsOf t = 1).symm, _, ⟨s, rfl, hw⟩, rfl, fun j hj => by match j, hj with | 0, _ => exact ⟨.v _, rfl⟩⟩
    · rename_i fs hu
      simp only [Bool.and_eq_true, List.all_eq_true] at ht
      obtain ⟨xs, m, _, _, hl, hlen, hf⟩ := DataW.trod_struct hu h
      refine ⟨hl, ?_⟩
      obtain ⟨asz, h1, h2, h3⟩ := read_fields (S := Shape P n) (w := w) (cs := cs) fs.toList 0 (P.cellsOf t) ht.1 (by omega) fun f hfm => by
        obtain ⟨i, hi, hfi⟩ := List.getElem_of_mem hfm
        have hi' : i < fs.size := by simpa using hi
        have e1 : fs[i]? = some f := by rw [Array.getElem?_eq_getElem hi']; simpa using hfi
        have h4 := hf i f e1
        obtain ⟨y, hy⟩ : ∃ y, xs[i]? = some y := ⟨_, List.getElem?_eq_getElem (by omega)⟩
        rw [hy] at h4
        obtain ⟨k1, asz, k2, k3, k4⟩ := read_ty n f.type (ht.2 f hfm) h4
        refine ⟨asz, k2, by omega, fun j hj => ?_⟩
        have := k4 j hj
        rw [Nat.zero_add, cv_piece (by omega)] at this
        exact this
      exact ⟨asz, h1, by omega, h3⟩
    · rename_i e hu
      simp only [Bool.and_eq_true, decide_eq_true_eq, beq_iff_eq] at ht
      rcases DataW.trod_slice hu h with ⟨rfl, _⟩ | ⟨a, len, cap, elems, rest, m, _, rfl, _, hb, hl, hm, hlen, hel, _, _⟩
      · exact ⟨by simpa using ht.1.1.symm, _, ⟨[], rfl, by simp, by simp⟩, rfl, fun j hj => by match j, hj with | 0, _ => exact ⟨.slE none 0 (by simp), rfl⟩⟩
      · refine ⟨by simpa using ht.1.1.symm, ?_⟩
        have each : ∀ i, i < len → ∃ asz : List AV × List Value, Shape P n e asz.1 ∧ asz.1.length = P.cellsOf e ∧ (∀ j, j < P.cellsOf e → w.cell? ((a.add (i * P.cellsOf e)).add j) = some (cv asz.2 j)) ∧ CellsOk w asz.1 asz.2 0 := by
          intro i hi
          have h4 := hel i hi
          obtain ⟨y, hy⟩ : ∃ y, elems[i]? = some y := ⟨_, List.getElem?_eq_getElem (by omega)⟩
          rw [hy, Option.bind_eq_some_iff] at h4
          obtain ⟨cs', hc, ht'⟩ := h4
          obtain ⟨k1, asz, k2, k3, k4⟩ := read_ty n e ht.2 ht'
          obtain ⟨_, hcl, hca⟩ := World.cells?_some hc
          refine ⟨(asz, cs'), k2, by simp; omega, fun j hj => ?_, k4⟩
          rw [hca j hj]
          have : j < cs'.length := by omega
          simp [cv, List.getD_eq_getElem?_getD, this]
        obtain ⟨l, hll, hlq⟩ := lists len each
        by_cases h0 : len = 0
        · subst h0
          exact ⟨_, ⟨[], rfl, by simp, by simp⟩, rfl, fun j hj => by match j, hj with | 0, _ => exact ⟨.slE (some a) cap hm, rfl⟩⟩
        · have hg0 := (hlq 0 _ (List.getElem?_eq_getElem (by omega))).2.2.1 0 ht.1.2
          obtain ⟨g, off, q⟩ := a
          have hq : q = none ∧ g < w.heap.size := by
            have e0 : ((Addr.mk g off q).add (0 * P.cellsOf e)).add 0 = ⟨g, off, q⟩ := by simp [Addr.add]
            rw [e0] at hg0
            unfold World.cell? at hg0
            cases hg : w.heap[g]? with
            | none => simp [hg] at hg0
            | some o =>
              refine ⟨?_, (Array.getElem?_eq_some_iff.1 hg).1⟩
              cases q with
              | none => rfl
              | some v => cases o <;> simp [hg] at hg0
          obtain ⟨rfl, hlt⟩ := hq
          have hes : (l.map (·.1)).length = len := by simp [hll]
          have at_ : ∀ i (hi : i < len), ∃ asz, l[i]? = some asz ∧ (l.map (·.1)).getD i [] = asz.1 ∧ (fun i j => cv ((l.map (·.2)).getD i []) j) i = cv asz.2 := by
            intro i hi
            refine ⟨l[i]'(by omega), List.getElem?_eq_getElem (by omega), ?_, ?_⟩
            · simp [List.getD_eq_getElem?_getD, List.getElem?_eq_getElem (show i < l.length by omega)]
            · funext j
              simp [List.getD_eq_getElem?_getD, List.getElem?_eq_getElem (show i < l.length by omega)]
          have hp := PureV.slC (st := fun g => g < w.heap.size) (w := w) (l.map (·.1)) g off cap (P.cellsOf e) (fun i j => cv ((l.map (·.2)).getD i []) j) (by omega) hm ht.1.2 (fun e' => by rw [e'] at hes; simp at hes; omega)
            (fun r hr => by
              obtain ⟨asz, has, rfl⟩ := List.mem_map.1 hr
              obtain ⟨i, hi⟩ := List.getElem?_of_mem has
              exact (hlq i asz hi).2.1)
            hlt
            (fun i j hi hj => by
              obtain ⟨asz, ha, e1, e2⟩ := at_ i (by omega)
              have h5 := (hlq i asz ha).2.2.1 j hj
              have h6 := ((hlq i asz ha).2.2.2 j (by rw [(hlq i asz ha).2.1]; exact hj)).2
              rw [Nat.zero_add] at h6
              have e3 : cv ((l.map (·.2)).getD i []) j = cv asz.2 j := congrFun e2 j
              show w.cell? _ = some (cv ((l.map (·.2)).getD i []) j) ∧ (cv ((l.map (·.2)).getD i []) j).oneCell' = true
              rw [e3]
              refine ⟨?_, h6⟩
              rw [← h5]
              congr 1
              simp only [Addr.add]
              split <;> split <;> simp_all <;> omega)
            (fun i j hi hj => by
              obtain ⟨asz, ha, e1, e2⟩ := at_ i (by omega)
              have h6 := ((hlq i asz ha).2.2.2 j (by rw [(hlq i asz ha).2.1]; exact hj)).1
              rw [Nat.zero_add] at h6
              have e3 : cv ((l.map (·.2)).getD i []) j = cv asz.2 j := congrFun e2 j
              show PureV _ w (av ((l.map (·.1)).getD i []) j) (cv ((l.map (·.2)).getD i []) j)
              rw [e1, e3]
              exact h6)
          rw [hes] at hp
          refine ⟨[.sl (l.map (·.1))], ⟨_, rfl, by omega, fun r hr => ?_⟩, rfl, fun j hj => by match j, hj with | 0, _ => exact ⟨hp, rfl⟩⟩
          obtain ⟨asz, has, rfl⟩ := List.mem_map.1 hr
          obtain ⟨i, hi⟩ := List.getElem?_of_mem has
          exact (hlq i asz hi).1
    · rename_i k e hu
      simp only [Bool.and_eq_true, beq_iff_eq] at ht
      obtain ⟨xs, m, _, _, hl, hlen, hf⟩ := DataW.trod_array hu h
      refine ⟨hl, ?_⟩
      obtain ⟨rs, h1, h2, h3, h4⟩ := read_rows (S := Shape P n e) (w := w) (cs := cs) (sz := P.cellsOf e) k 0 fun i hi => by
        have h4 := hf i hi
        obtain ⟨y, hy⟩ : ∃ y, xs[i]? = some y := ⟨_, List.getElem?_eq_getElem (by omega)⟩
        rw [hy] at h4
        obtain ⟨k1, asz, k2, k3, k4⟩ := read_ty n e ht.2 h4
        refine ⟨asz, k2, by omega, fun j hj => ?_⟩
        have := k4 j hj
        rw [Nat.zero_add, cv_piece (by omega)] at this
        rwa [Nat.zero_add]
      exact ⟨rs.flatten, ⟨rs, rfl, h1, h2⟩, by omega, h4⟩
    · simp at ht

/-- A slice among the arguments. -/
theorem arg_slice {t e : TypeId} {r : Reach} {b0 : Nat} {v : Value} {d : DataW H} {p : List MemPlace} (n : Nat) (hu : P.underlying t = some (.slice e)) (ht : readsTy P n t = true)
    (hval : Value.okWide P w r b0 t v) (hd : DataW.Trod enc P w 0 spare held t v d p) : ∃ a, Shape P n t [a] ∧ PureV (fun g => g < w.heap.size ∧ True) w a v := by
  obtain ⟨fuel, h⟩ := hd
  obtain ⟨a0, len, cap, rfl⟩ := okWide_slice hu hval
  obtain ⟨_, asz, h1, h2, h3⟩ := read_ty n t ht h
  match asz, h2 with
  | [a], _ =>
  exact ⟨a, h1, (h3 0 (by simp)).1.mono fun g hg => ⟨⟨hg, trivial⟩, rfl⟩⟩

theorem arg_string {t : TypeId} {r : Reach} {b0 : Nat} {v : Value} {d : DataW H} {p : List MemPlace} (hu : P.underlying t = some .string)
    (hval : Value.okWide P w r b0 t v) (hd : DataW.Trod enc P w 0 spare held t v d p) : ∃ s : ByteArray, s.size ≤ maxLen ∧ PureV (fun g => g < w.heap.size ∧ True) w (.v (.string s)) v := by
  obtain ⟨s, rfl, _, _, hw⟩ := Go.ChangeMaps.open_string hu hval hd
  exact ⟨s, hw, .v _⟩
end

/-- The cells that a datum lays. -/
def laidVals : Nat → DataW Unit → List Value
  | 0, _ => []
  | _ + 1, .lit (.int k n) => [.int k n]
  | _ + 1, .lit (.bool b) => [.bool b]
  | _ + 1, .lit (.string s) => [.string ⟨s.toArray⟩]
  | n + 1, .agg xs => xs.flatMap (laidVals n)
  | _ + 1, _ => []

theorem map_shape {α : Type} {f : α → List AV} : ∀ {es : List (List AV)}, (∀ r ∈ es, ∃ x : α, r = f x) → ∃ l : List α, es = l.map f
  | [], _ => ⟨[], rfl⟩
  | r :: es, h => by
    obtain ⟨x, rfl⟩ := h r (List.mem_cons.2 (.inl rfl))
    obtain ⟨l, rfl⟩ := map_shape (es := es) fun q hq => h q (List.mem_cons.2 (.inr hq))
    exact ⟨x :: l, rfl⟩
end Go.Ab
end
section
set_option linter.unusedVariables false
set_option linter.unusedSimpArgs false
namespace Go.Proofs
open Go Go.Ab Go.ChangeShapes Go.WideShapes Go.ChangeAt Go.RowKit
set_option maxRecDepth 100000
theorem rest_laid : laidOutB Tryz.prog = true := by kernel_rfl
theorem rest_own : ownKnob Tryz.prog.godebug = none := by kernel_rfl
theorem shape_strs {qs : List AV} (h : Shape Tryz.prog 2 47 qs) : ∃ l : List ByteArray, qs = [.sl (strs l)] := by
  unfold Shape at h
  rw [Tryz.underlying47] at h
  obtain ⟨es, rfl, _, he⟩ := h
  obtain ⟨l, rfl⟩ := map_shape (f := fun s : ByteArray => [AV.v (.string s)]) fun q hq => by
    have h1 := he q hq
    unfold Shape at h1
    simp only [Tryz.underlying9] at h1
    obtain ⟨x0, rfl, _⟩ := h1
    exact ⟨x0, rfl⟩
  exact ⟨l, rfl⟩
theorem shape_te {qs : List AV} (h : Shape Tryz.prog 3 55 qs) : ∃ x : Te, AV.agg qs = x.av := by
  unfold Shape at h
  rw [Tryz.underlying55] at h
  simp only [List.map_cons, List.map_nil, FieldsShape] at h
  obtain ⟨_, _, rfl, h0, _, _, rfl, h1, _, _, rfl, h2, rfl⟩ := h
  obtain ⟨l, rfl⟩ := shape_strs h1
  unfold Shape at h0 h2
  simp only [Tryz.underlying9, Tryz.underlying4] at h0 h2
  obtain ⟨x0, rfl, _⟩ := h0
  obtain ⟨x2, rfl⟩ := h2
  exact ⟨⟨x0, l, x2⟩, rfl⟩
theorem shape_tes {qs : List AV} (h : Shape Tryz.prog 4 40 qs) : ∃ l : List Te, qs = [.sl (tes l)] := by
  unfold Shape at h
  rw [Tryz.underlying40] at h
  obtain ⟨es, rfl, _, he⟩ := h
  obtain ⟨l, rfl⟩ := map_shape (f := Te.cells) fun q hq => by
    obtain ⟨x, hx⟩ := shape_te (he q hq)
    refine ⟨x, ?_⟩
    have : AV.agg q = .agg x.cells := hx
    injection this
  exact ⟨l, rfl⟩
section
variable {H : Type} {enc : TypeId × Value → H} {w : World} {spare : Nat → Bool} {held : Bool} {r : Reach} {b0 : Nat} {v : Value} {d : DataW H} {p : List MemPlace}
theorem arg_tes (hval : Value.okWide Tryz.prog w r b0 40 v) (hd : DataW.Trod enc Tryz.prog w 0 spare held 40 v d p) : ∃ l : List Te, PureV (fun g => g < w.heap.size ∧ True) w (.sl (tes l)) v := by
  obtain ⟨a, hs, hp⟩ := arg_slice 4 Tryz.underlying40 (by kernel_rfl) hval hd
  obtain ⟨l, e⟩ := shape_tes hs
  obtain rfl : a = .sl (tes l) := by simpa using e
  exact ⟨l, hp⟩
theorem arg_strs (hval : Value.okWide Tryz.prog w r b0 47 v) (hd : DataW.Trod enc Tryz.prog w 0 spare held 47 v d p) : ∃ l : List ByteArray, PureV (fun g => g < w.heap.size ∧ True) w (.sl (strs l)) v := by
  obtain ⟨a, hs, hp⟩ := arg_slice 2 Tryz.underlying47 (by kernel_rfl) hval hd
  obtain ⟨l, e⟩ := shape_strs hs
  obtain rfl : a = .sl (strs l) := by simpa using e
  exact ⟨l, hp⟩
end
open YtdgacfkgodbajaaGreatDoor in
/-- The settled world, the two tables of unicode/utf8 as their initialisers lay them. -/
noncomputable def laidWorld (os : Os) : World :=
  let w0 := World.holding Tryz.prog os ⟨#[], #[], []⟩
  let put (h : Array Obj) (g : Nat) (cs : Array Value) : Array Obj := h.modify g fun
    | .cells _ t frozen => .cells cs t frozen
    | o => o
  let h1 := put w0.heap 1 (laidVals 9 Rows.laid_unicode_utf8_first).toArray
  let h2 := put h1 2 (laidVals 9 (Rows.laid_unicode_utf8_acceptRanges (H := Unit))).toArray
  { w0 with heap := h2 }
open YtdgacfkgodbajaaGreatDoor in
theorem laid_met0 (os : Os) (args : Array Value) : laidMet Tryz.prog Rows.permitCoversRow.laid ((laidWorld os).forCall (fun _ _ => 0) ⟨#[], args, []⟩).memory :=
  laidMet_of_run' 8 (by kernel_rfl) (by kernel_rfl)
end Go.Proofs
end
section
set_option linter.unusedVariables false
set_option linter.unusedSimpArgs false
namespace Go.Proofs
open Go Go.Ab
set_option maxHeartbeats 8000000
set_option maxRecDepth 100000
attribute [local irreducible] Awp aops aopsL Go.Ab.Pure PureOwn

def longB (s : ByteArray) : Bool := decide ((100 : Int) < s.size)
def bigT (q : Te) : Bool := (decide ((100 : Int) < q.id.size) || decide ((30 : Int) < q.af.length)) || q.af.any longB
def fewB (l : List Te) : Bool := !(l.take 71).any bigT && decide ((l.length : Int) ≤ 70)
theorem few_ok (l : List Te) : Pure Tryz.prog 20 [.sl (tes l)] (.v (.bool (fewB l))) := by
  unfold fewB
  have hln : ∀ m : List ByteArray, (strs m).length = m.length := fun m => by simp [strs]
  have ht := List.length_take (i := 71) (l := l)
  refine fn_pure Tryz.F20 (Nat.le_of_ble_eq_true rfl) ?_; unfold Tryz.ac20
  repeat' (first
 | (apply Awp.sreg; (case hn => (simp only [List.length_cons, List.length_nil, Nat.reduceAdd] <;> rfl)))
 | (refine st_nil ?_)
 | (apply st_a; (case hc => rfl); (case he => (simp only [go_sem, *] <;> rfl)); (case hu => (simp only [updL_nil, updL_cons] <;> rfl)); (case hp => first | trivial))
 | refine Awp.block ?_
 | refine Awp.seq ?_)
  refine Awp.loop (fun i : Nat => i ≤ (l.take 71).length ∧ ∀ j, j < i → bigT ((l.take 71).getD j zeroTe) = false) 60 (fun i => mkS [(0, .sl (tes l)), (3, .v (.int .i64 i))] []) (fun i => 71 - i) 0 (by simp) ?_ ?_
  · clear ht
    (apply Ghost.mk [] []; (case hdead => rfl); (case hinj => rfl); (case hV => (simp only [go_sem, *]) <;> (repeat' (first | exact View.int (by first | rfl | omega | (simp; done) | (rw [wrap_i64] <;> (try simp only [Int.natCast_add]) <;> omega) | (simp [*]; done))))); (case hB => (simp only [go_sem, *]) <;> (repeat' (first | skip; done))))
  · intro i ⟨hi, hj⟩
    by_cases hlt : i < (l.take 71).length
    · have hlq : i < l.length := by omega
      have h71 : i < 71 := by omega
      have hlt' : (i : Int) < l.length := by omega
      have h71' : (i : Int) < 71 := by omega
      have hat := tes_at l i hlq
      have hz : ((l.getD i zeroTe).cells).length = 3 := rfl
      have hB0 := take_at l zeroTe 71 i h71
      cases hB : bigT (l.getD i zeroTe)
      · have hB' := hB
        rw [← hB0] at hB
        have hnx := ltSucc (P := fun j => bigT ((l.take 71).getD j zeroTe) = false) hj hB
        unfold bigT at hB'
        rw [Bool.or_eq_false_iff] at hB'
        obtain ⟨hB1, hB2⟩ := hB'
        have h40 : (l.getD i zeroTe).af.length ≤ 30 := by
          simp only [Bool.or_eq_false_iff, decide_eq_false_iff_not] at hB1
          omega
        clear hj hB hB0 ht hlt
        repeat' (first
 | (apply Awp.sreg; (case hn => (simp only [List.length_cons, List.length_nil, Nat.reduceAdd] <;> rfl)))
 | (refine st_nil ?_)
 | (apply st_a; (case hc => rfl); (case he => (simp only [go_sem, *] <;> rfl)); (case hu => (simp only [updL_nil, updL_cons] <;> rfl)); (case hp => first | trivial | omega))
 | (apply st_m; (case hc => rfl); (case hg => (simp only [go_sem, *] <;> rfl)); (case he => (intro hQz; (try simp only [wantB_t, wantB_f, Bool.and_eq_true, Bool.not_eq_true', Bool.not_true, Bool.not_false, and_true, true_and] at hQz); simp only [go_sem, *] <;> rfl)); (case hp => (intro hQz; (try simp only [wantB_t, wantB_f, Bool.and_eq_true, Bool.not_eq_true', Bool.or_eq_false_iff, decide_eq_true_eq, decide_eq_false_iff_not, beq_iff_eq, beq_eq_false_iff_ne, bne_iff_ne, bne_eq_false_iff_eq, Int.not_lt, Int.not_le, Int.ofNat_lt, Int.ofNat_le] at hQz); first | trivial | omega)))
 | (refine Awp.skip ?_; try simp only [go_sem, *])
 | refine Awp.block ?_
 | (apply Awp.cond; (case hc => (simp only [go_sem, *] <;> rfl)); all_goals (intro hg; (try simp only [Bool.not_true, Bool.not_false, reduceCtorEq] at hg)))
 | refine Awp.seq ?_)
        clear hB1
        refine Awp.loop (fun k : Nat => k ≤ (l.getD i zeroTe).af.length) 80 (fun k => mkS [(0, .sl (tes l)), (3, .v (.int .i64 i)), (4, .v (.int .i64 k))] []) (fun k => (l.getD i zeroTe).af.length - k) 0 (by omega) ?_ ?_
        · (apply Ghost.mk [] []; (case hdead => rfl); (case hinj => rfl); (case hV => (simp only [go_sem, *]) <;> (repeat' (first | exact View.int (by first | rfl | omega | (simp; done) | (rw [wrap_i64] <;> (try simp only [Int.natCast_add]) <;> omega) | (simp [*]; done))))); (case hB => (simp only [go_sem, *]) <;> (repeat' (first | skip; done))))
        · intro k hk
          by_cases hkl : k < (l.getD i zeroTe).af.length
          · have hkl' : (k : Int) < (l.getD i zeroTe).af.length := by omega
            have hatk := strs_at0 (l.getD i zeroTe).af k hkl
            have hno : longB ((l.getD i zeroTe).af.getD k zeroB) = false := by
              rw [List.any_eq_false] at hB2
              have e := getD_get (l.getD i zeroTe).af zeroB k hkl
              rw [e]
              have := hB2 _ (List.getElem_mem hkl)
              simpa using this
            unfold longB at hno
            clear hnx hB2
            repeat' (first
 | (apply Awp.sreg; (case hn => (simp only [List.length_cons, List.length_nil, Nat.reduceAdd] <;> rfl)))
 | (refine st_nil ?_)
 | (apply st_a; (case hc => rfl); (case he => (simp only [go_sem, *] <;> rfl)); (case hu => (simp only [updL_nil, updL_cons] <;> rfl)); (case hp => first | trivial | omega))
 | (apply Awp.reg; (case hn => (simp only [List.length_cons, List.length_nil, Nat.reduceAdd] <;> rfl)))
 | (refine Awp.skip ?_; try simp only [go_sem, *])
 | refine Awp.block ?_
 | (apply Awp.cond; (case hc => (simp only [go_sem, *] <;> rfl)); all_goals (intro hg; (try simp only [Bool.not_true, Bool.not_false, reduceCtorEq] at hg)))
 | refine Awp.seq ?_)
            refine ⟨k + 1, by omega, by omega, ?_⟩
            (apply Ghost.mk [] []; (case hdead => rfl); (case hinj => rfl); (case hV => (simp only [go_sem, *]) <;> (repeat' (first | exact View.int (by first | rfl | omega | (simp; done) | (rw [wrap_i64] <;> (try simp only [Int.natCast_add]) <;> omega) | (simp [*]; done))))); (case hB => (simp only [go_sem, *]) <;> (repeat' (first | skip; done))))
          · have hkl' : ¬ (k : Int) < (l.getD i zeroTe).af.length := by omega
            clear hB2
            repeat' (first
 | (apply Awp.sreg; (case hn => (simp only [List.length_cons, List.length_nil, Nat.reduceAdd] <;> rfl)))
 | (refine st_nil ?_)
 | (apply st_a; (case hc => rfl); (case he => (simp only [go_sem, *] <;> rfl)); (case hu => (simp only [updL_nil, updL_cons] <;> rfl)); (case hp => first | trivial | omega))
 | (apply Awp.reg; (case hn => (simp only [List.length_cons, List.length_nil, Nat.reduceAdd] <;> rfl)))
 | (refine Awp.exit ?_; try simp only [go_sem, *])
 | (apply Awp.cond; (case hc => (simp only [go_sem, *] <;> rfl)); all_goals (intro hg; (try simp only [Bool.not_true, Bool.not_false, reduceCtorEq] at hg)))
 | refine Awp.seq ?_)
            refine ⟨i + 1, ⟨by rw [List.length_take]; omega, hnx⟩, by omega, ?_⟩
            clear hnx
            (apply Ghost.mk [] []; (case hdead => rfl); (case hinj => rfl); (case hV => (simp only [go_sem, *]) <;> (repeat' (first | exact View.int (by first | rfl | omega | (simp; done) | (rw [wrap_i64] <;> (try simp only [Int.natCast_add]) <;> omega) | (simp [*]; done))))); (case hB => (simp only [go_sem, *]) <;> (repeat' (first | skip; done))))
      · have han : (l.take 71).any bigT = true := any_in (d := zeroTe) hlt (by rw [hB0]; exact hB)
        rw [han]
        clear hj han hB0 ht
        unfold bigT at hB
        cases hB1 : (decide ((100 : Int) < (l.getD i zeroTe).id.size) || decide ((30 : Int) < (l.getD i zeroTe).af.length))
        · rw [hB1, Bool.false_or] at hB
          have h40 : (l.getD i zeroTe).af.length ≤ 30 := by
            simp only [Bool.or_eq_false_iff, decide_eq_false_iff_not] at hB1
            omega
          repeat' (first
 | (apply Awp.sreg; (case hn => (simp only [List.length_cons, List.length_nil, Nat.reduceAdd] <;> rfl)))
 | (refine st_nil ?_)
 | (apply st_a; (case hc => rfl); (case he => (simp only [go_sem, *] <;> rfl)); (case hu => (simp only [updL_nil, updL_cons] <;> rfl)); (case hp => first | trivial | omega))
 | (apply st_m; (case hc => rfl); (case hg => (simp only [go_sem, *] <;> rfl)); (case he => (intro hQz; (try simp only [wantB_t, wantB_f, Bool.and_eq_true, Bool.not_eq_true', Bool.not_true, Bool.not_false, and_true, true_and] at hQz); simp only [go_sem, *] <;> rfl)); (case hp => (intro hQz; (try simp only [wantB_t, wantB_f, Bool.and_eq_true, Bool.not_eq_true', Bool.or_eq_false_iff, decide_eq_true_eq, decide_eq_false_iff_not, beq_iff_eq, beq_eq_false_iff_ne, bne_iff_ne, bne_eq_false_iff_eq, Int.not_lt, Int.not_le, Int.ofNat_lt, Int.ofNat_le] at hQz); first | trivial | omega)))
 | (refine Awp.skip ?_; try simp only [go_sem, *])
 | refine Awp.block ?_
 | (apply Awp.cond; (case hc => (simp only [go_sem, *] <;> rfl)); all_goals (intro hg; (try simp only [Bool.not_true, Bool.not_false, reduceCtorEq] at hg)))
 | refine Awp.seq ?_)
          clear hB1
          refine Awp.loop (fun k : Nat => k ≤ (l.getD i zeroTe).af.length ∧ ∀ j, j < k → longB ((l.getD i zeroTe).af.getD j zeroB) = false) 80 (fun k => mkS [(0, .sl (tes l)), (3, .v (.int .i64 i)), (4, .v (.int .i64 k))] []) (fun k => (l.getD i zeroTe).af.length - k) 0 (by simp) ?_ ?_
          · (apply Ghost.mk [] []; (case hdead => rfl); (case hinj => rfl); (case hV => (simp only [go_sem, *]) <;> (repeat' (first | exact View.int (by first | rfl | omega | (simp; done) | (rw [wrap_i64] <;> (try simp only [Int.natCast_add]) <;> omega) | (simp [*]; done))))); (case hB => (simp only [go_sem, *]) <;> (repeat' (first | skip; done))))
          · intro k ⟨hk, hjk⟩
            by_cases hkl : k < (l.getD i zeroTe).af.length
            · have hkl' : (k : Int) < (l.getD i zeroTe).af.length := by omega
              have hatk := strs_at0 (l.getD i zeroTe).af k hkl
              clear hB
              cases hno : longB ((l.getD i zeroTe).af.getD k zeroB)
              · have hnx := ltSucc (P := fun j => longB ((l.getD i zeroTe).af.getD j zeroB) = false) hjk hno
                clear hjk
                unfold longB at hno
                repeat' (first
 | (apply Awp.sreg; (case hn => (simp only [List.length_cons, List.length_nil, Nat.reduceAdd] <;> rfl)))
 | (refine st_nil ?_)
 | (apply st_a; (case hc => rfl); (case he => (simp only [go_sem, *] <;> rfl)); (case hu => (simp only [updL_nil, updL_cons] <;> rfl)); (case hp => first | trivial | omega))
 | (apply Awp.reg; (case hn => (simp only [List.length_cons, List.length_nil, Nat.reduceAdd] <;> rfl)))
 | (refine Awp.skip ?_; try simp only [go_sem, *])
 | refine Awp.block ?_
 | (apply Awp.cond; (case hc => (simp only [go_sem, *] <;> rfl)); all_goals (intro hg; (try simp only [Bool.not_true, Bool.not_false, reduceCtorEq] at hg)))
 | refine Awp.seq ?_)
                refine ⟨k + 1, ⟨by omega, hnx⟩, by omega, ?_⟩
                clear hnx
                (apply Ghost.mk [] []; (case hdead => rfl); (case hinj => rfl); (case hV => (simp only [go_sem, *]) <;> (repeat' (first | exact View.int (by first | rfl | omega | (simp; done) | (rw [wrap_i64] <;> (try simp only [Int.natCast_add]) <;> omega) | (simp [*]; done))))); (case hB => (simp only [go_sem, *]) <;> (repeat' (first | skip; done))))
              · clear hjk
                unfold longB at hno
                repeat' (first
 | (apply Awp.sreg; (case hn => (simp only [List.length_cons, List.length_nil, Nat.reduceAdd] <;> rfl)))
 | (refine st_nil ?_)
 | (apply st_a; (case hc => rfl); (case he => (simp only [go_sem, *] <;> rfl)); (case hu => (simp only [updL_nil, updL_cons] <;> rfl)); (case hp => first | trivial | omega))
 | (refine Awp.ret ?_; try simp only [go_sem, *])
 | (refine Awp.skip ?_; try simp only [go_sem, *])
 | refine Awp.block ?_
 | (apply Awp.cond; (case hc => (simp only [go_sem, *] <;> rfl)); all_goals (intro hg; (try simp only [Bool.not_true, Bool.not_false, reduceCtorEq] at hg)))
 | refine Awp.seq ?_)
                all_goals repeat' (first | exact Lower.bool (by first | rfl | (simp only [true_and, Bool.true_and, Bool.false_and, Bool.and_true, Bool.and_false, Bool.true_or, Bool.false_or, reduceIte, Bool.false_eq_true, *]; done) | (simp only [true_and, reduceIte, Bool.false_eq_true, *] <;> rfl) | (simp [true_and]; done) | (simp_all [true_and]; done) | omega))
            · exfalso
              have := any_end (p := longB) (d := zeroB) (Nat.le_of_not_lt hkl) hjk
              rw [hB] at this
              cases this
        · clear hB
          repeat' (first
 | (apply Awp.sreg; (case hn => (simp only [List.length_cons, List.length_nil, Nat.reduceAdd] <;> rfl)))
 | (refine st_nil ?_)
 | (apply st_a; (case hc => rfl); (case he => (simp only [go_sem, *] <;> rfl)); (case hu => (simp only [updL_nil, updL_cons] <;> rfl)); (case hp => first | trivial | omega))
 | (apply st_m; (case hc => rfl); (case hg => (simp only [go_sem, *] <;> rfl)); (case he => (intro hQz; (try simp only [wantB_t, wantB_f, Bool.and_eq_true, Bool.not_eq_true', Bool.not_true, Bool.not_false, and_true, true_and] at hQz); simp only [go_sem, *] <;> rfl)); (case hp => (intro hQz; (try simp only [wantB_t, wantB_f, Bool.and_eq_true, Bool.not_eq_true', Bool.or_eq_false_iff, decide_eq_true_eq, decide_eq_false_iff_not, beq_iff_eq, beq_eq_false_iff_ne, bne_iff_ne, bne_eq_false_iff_eq, Int.not_lt, Int.not_le, Int.ofNat_lt, Int.ofNat_le] at hQz); first | trivial | omega)))
 | (refine Awp.ret ?_; try simp only [go_sem, *])
 | (refine Awp.skip ?_; try simp only [go_sem, *])
 | refine Awp.block ?_
 | (apply Awp.cond; (case hc => (simp only [go_sem, *] <;> rfl)); all_goals (intro hg; (try simp only [Bool.not_true, Bool.not_false, reduceCtorEq] at hg)))
 | refine Awp.seq ?_)
          all_goals repeat' (first | exact Lower.bool (by first | rfl | (simp only [true_and, Bool.true_and, Bool.false_and, Bool.and_true, Bool.and_false, Bool.true_or, Bool.false_or, reduceIte, Bool.false_eq_true, *]; done) | (simp only [true_and, reduceIte, Bool.false_eq_true, *] <;> rfl) | (simp [true_and]; done) | (simp_all [true_and]; done) | omega))
    · have han : (l.take 71).any bigT = false := any_end (d := zeroTe) (Nat.le_of_not_lt hlt) hj
      rw [han]
      have hi2 : (71 ≤ i ∧ i < 72) ∨ (i < 71 ∧ l.length ≤ i) := by omega
      clear hj han ht hlt
      have hor : decide ((i : Int) < 71) = false ∨ decide ((i : Int) < l.length) = false := by
        rcases hi2 with h | h
        · exact .inl (decide_eq_false (by omega))
        · exact .inr (decide_eq_false (by omega))
      cases hb : decide ((i : Int) < l.length)
      · repeat' (first
 | (apply Awp.sreg; (case hn => (simp only [List.length_cons, List.length_nil, Nat.reduceAdd] <;> rfl)))
 | (refine st_nil ?_)
 | (apply st_a; (case hc => rfl); (case he => (simp only [go_sem, *] <;> rfl)); (case hu => (simp only [updL_nil, updL_cons] <;> rfl)); (case hp => first | trivial))
 | (apply st_m; (case hc => rfl); (case hg => (simp only [go_sem, *] <;> rfl)); (case he => (intro hQz; (try simp only [wantB_t, wantB_f, Bool.and_eq_true, Bool.not_eq_true', Bool.not_true, Bool.not_false, and_true, true_and] at hQz); simp only [go_sem, *] <;> rfl)); (case hp => (intro hQz; (try simp only [wantB_t, wantB_f, Bool.and_eq_true, Bool.not_eq_true', Bool.or_eq_false_iff, decide_eq_true_eq, decide_eq_false_iff_not, beq_iff_eq, beq_eq_false_iff_ne, bne_iff_ne, bne_eq_false_iff_eq, Int.not_lt, Int.not_le, Int.ofNat_lt, Int.ofNat_le] at hQz); first | trivial)))
 | (refine Awp.ret ?_; try simp only [go_sem, *])
 | (refine Awp.exit ?_; try simp only [go_sem, *])
 | (apply Awp.cond; (case hc => (simp only [go_sem, *] <;> rfl)); all_goals (intro hg; (try simp only [Bool.not_true, Bool.not_false, reduceCtorEq] at hg)))
 | refine Awp.seq ?_)
        all_goals repeat' (first | exact Lower.bool (by first | rfl | (simp only [true_and, Bool.true_and, Bool.false_and, Bool.and_true, Bool.and_false, Bool.true_or, Bool.false_or, reduceIte, Bool.false_eq_true, *]; done) | (simp only [true_and, reduceIte, Bool.false_eq_true, *] <;> rfl) | (simp [true_and]; done) | (simp_all [true_and]; done) | omega))
      · have h71 : decide ((i : Int) < 71) = false := by
          rcases hor with h | h
          · exact h
          · rw [hb] at h; cases h
        clear hor
        repeat' (first
 | (apply Awp.sreg; (case hn => (simp only [List.length_cons, List.length_nil, Nat.reduceAdd] <;> rfl)))
 | (refine st_nil ?_)
 | (apply st_a; (case hc => rfl); (case he => (simp only [go_sem, *] <;> rfl)); (case hu => (simp only [updL_nil, updL_cons] <;> rfl)); (case hp => first | trivial))
 | (apply st_m; (case hc => rfl); (case hg => (simp only [go_sem, *] <;> rfl)); (case he => (intro hQz; (try simp only [wantB_t, wantB_f, Bool.and_eq_true, Bool.not_eq_true', Bool.not_true, Bool.not_false, and_true, true_and] at hQz); simp only [go_sem, *] <;> rfl)); (case hp => (intro hQz; (try simp only [wantB_t, wantB_f, Bool.and_eq_true, Bool.not_eq_true', Bool.or_eq_false_iff, decide_eq_true_eq, decide_eq_false_iff_not, beq_iff_eq, beq_eq_false_iff_ne, bne_iff_ne, bne_eq_false_iff_eq, Int.not_lt, Int.not_le, Int.ofNat_lt, Int.ofNat_le] at hQz); first | trivial)))
 | (refine Awp.ret ?_; try simp only [go_sem, *])
 | (refine Awp.exit ?_; try simp only [go_sem, *])
 | (apply Awp.cond; (case hc => (simp only [go_sem, *] <;> rfl)); all_goals (intro hg; (try simp only [Bool.not_true, Bool.not_false, reduceCtorEq] at hg)))
 | refine Awp.seq ?_)
        all_goals repeat' (first | exact Lower.bool (by first | rfl | (simp only [true_and, Bool.true_and, Bool.false_and, Bool.and_true, Bool.and_false, Bool.true_or, Bool.false_or, reduceIte, Bool.false_eq_true, *]; done) | (simp only [true_and, reduceIte, Bool.false_eq_true, *] <;> rfl) | (simp [true_and]; done) | (simp_all [true_and]; done) | omega))

theorem few_get {l : List Te} (h : fewB l = true) : l.length ≤ 70 ∧ ∀ i, i < l.length → (l.getD i zeroTe).id.size ≤ 100 ∧ (l.getD i zeroTe).af.length ≤ 30 := by
  unfold fewB at h
  simp only [Bool.and_eq_true, Bool.not_eq_true', decide_eq_true_eq] at h
  refine ⟨by omega, fun i hi => ?_⟩
  have e : l.take 71 = l := List.take_of_length_le (by omega)
  have h2 := h.1
  rw [e, List.any_eq_false] at h2
  have h3 := h2 _ (List.getElem_mem hi)
  rw [← getD_get l zeroTe i hi] at h3
  unfold bigT at h3
  simp only [Bool.or_eq_true, not_or, decide_eq_true_eq] at h3
  omega
def bls (T : List Bool) : List (List AV) := T.map fun b => [.v (.bool b)]
@[go_sem] theorem bls_len (T : List Bool) : (bls T).length = T.length := by simp [bls]
theorem bls_at (T : List Bool) (i : Nat) (h : i < T.length) : (bls T).getD i [] = [.v (.bool (T.getD i false))] := by
  simp [bls, List.getD_eq_getElem?_getD, h]
def unmet (l : List Te) (T : List Bool) (s : ByteArray) : Bool := decide (findE l s < 0) || !T.getD (findE l s).toNat false
def metB (l : List Te) (q : Te) (T : List Bool) : Bool := !q.af.any (unmet l T)
theorem met_ok (l : List Te) (q : Te) (T : List Bool) (hl : l.length < 10000) (hq : q.af.length < 100000) (hT : T.length = l.length) : Pure Tryz.prog 46 [.sl (tes l), q.av, .sl (bls T)] (.v (.bool (metB l q T))) := by
  unfold metB
  have hln : (strs q.af).length = q.af.length := by simp [strs]
  refine fn_pure Tryz.F46 (Nat.le_of_ble_eq_true rfl) ?_; unfold Tryz.ac46
  repeat' (first
 | (apply Awp.sreg; (case hn => (simp only [List.length_cons, List.length_nil, Nat.reduceAdd] <;> rfl)))
 | (refine st_nil ?_)
 | (apply st_a; (case hc => rfl); (case he => (simp only [go_sem, *] <;> rfl)); (case hu => (simp only [updL_nil, updL_cons] <;> rfl)); (case hp => first | trivial))
 | refine Awp.block ?_
 | refine Awp.seq ?_)
  refine Awp.loop (fun k : Nat => k ≤ q.af.length ∧ ∀ j, j < k → unmet l T (q.af.getD j zeroB) = false) 60 (fun k => mkS [(0, .sl (tes l)), (2, .sl (bls T)), (4, .bp 0 0), (7, .v (.int .i64 k))] [(0, .box [.v (.string q.id), .sl (strs q.af), .v (.bool q.dn)])]) (fun k => q.af.length - k) 0 (by simp) ?_ ?_
  · clear hln hT
    (apply Ghost.mk [(0, 0)] []; (case hdead => rfl); (case hinj => rfl); (case hV => (simp only [go_sem, *]) <;> (repeat' (first | refine And.intro ?_ ?_ | exact View.int (by first | rfl | omega | (simp; done) | (rw [wrap_i64] <;> (try simp only [Int.natCast_add]) <;> omega) | (simp [*]; done)) | exact .bp rfl (by decide)))); (case hB => (simp only [go_sem, *]) <;> (repeat' (first | exact ⟨_, rfl, BView.boxF rfl⟩))))
  · intro k ⟨hk, hj⟩
    by_cases hkl : k < q.af.length
    · have hkl' : (k : Int) < q.af.length := by omega
      have hatk := strs_at0 q.af k hkl
      have c0 := rfind_ok l (q.af.getD k zeroB) (by omega)
      have hdb : unmet l T (q.af.getD k zeroB) = (decide (findE l (q.af.getD k zeroB) < 0) || !T.getD (findE l (q.af.getD k zeroB)).toNat false) := rfl
      have hnx0 := fun h => ltSucc (P := fun j => unmet l T (q.af.getD j zeroB) = false) hj h
      have hany := fun h => any_in (p := unmet l T) (d := zeroB) hkl h
      clear hj
      by_cases hF : findE l (q.af.getD k zeroB) < 0
      · have hany := hany (by rw [hdb, decide_eq_true hF]; rfl)
        rw [hany]
        clear hnx0 hdb hany
        generalize findE l (q.af.getD k zeroB) = F at *
        generalize q.af.getD k zeroB = u at *
        repeat' (first
 | (apply Awp.sreg; (case hn => (simp only [List.length_cons, List.length_nil, Nat.reduceAdd] <;> rfl)))
 | (refine st_nil ?_)
 | (apply st_a; (case hc => rfl); (case he => (simp only [go_sem, *] <;> rfl)); (case hu => (simp only [updL_nil, updL_cons] <;> rfl)); (case hp => first | trivial | omega))
 | (apply st_m; (case hc => rfl); (case hg => (simp only [go_sem, *] <;> rfl)); (case he => (intro hQz; (try simp only [wantB_t, wantB_f, Bool.and_eq_true, Bool.not_eq_true', Bool.not_true, Bool.not_false, and_true, true_and] at hQz); simp only [go_sem, *] <;> rfl)); (case hp => (intro hQz; (try simp only [wantB_t, wantB_f, Bool.and_eq_true, Bool.not_eq_true', Bool.or_eq_false_iff, decide_eq_true_eq, decide_eq_false_iff_not, beq_iff_eq, beq_eq_false_iff_ne, bne_iff_ne, bne_eq_false_iff_eq, Int.not_lt, Int.not_le, Int.ofNat_lt, Int.ofNat_le] at hQz); first | trivial)))
 | (apply st_c; (case hc => (simp only [go_sem, *] <;> rfl)); (case hl => (simp only [go_sem, *] <;> rfl)); (case hn => (simp only [go_sem, *] <;> rfl)); (case hp => first | exact c0 | (have hXz := c0; simp only [go_sem, *] at hXz; exact hXz)))
 | (refine Awp.ret ?_; try simp only [go_sem, *])
 | (refine Awp.skip ?_; try simp only [go_sem, *])
 | refine Awp.block ?_
 | (apply Awp.cond; (case hc => (simp only [go_sem, *] <;> rfl)); all_goals (intro hg; (try simp only [Bool.not_true, Bool.not_false, reduceCtorEq] at hg)))
 | refine Awp.seq ?_)
        all_goals repeat' (first | exact Lower.bool (by first | rfl | (simp only [true_and, Bool.true_and, Bool.false_and, Bool.and_true, Bool.and_false, Bool.true_or, Bool.false_or, reduceIte, Bool.false_eq_true, *]; done) | (simp only [true_and, reduceIte, Bool.false_eq_true, *] <;> rfl) | (simp [true_and]; done) | (simp_all [true_and]; done) | omega))
      · obtain ⟨m, hml, hFm, _⟩ := find_in hF
        rw [hFm] at c0 hdb
        clear hF hFm
        rw [decide_eq_false (by omega), Bool.false_or, Int.toNat_natCast] at hdb
        have hm0 : decide ((m : Int) < 0) = false := decide_eq_false (by omega)
        have hm0' : (0 : Int) ≤ m := by omega
        have hml' : (m : Int) < T.length := by omega
        have hatm := bls_at T m (by omega)
        have hml2 : m < T.length := by omega
        clear hT
        cases hy : T.getD m false
        · rw [hy] at hdb
          have hany := hany (by rw [hdb]; rfl)
          rw [hany]
          clear hnx0 hdb hany
          generalize q.af.getD k zeroB = u at *
          repeat' (first
 | (apply Awp.sreg; (case hn => (simp only [List.length_cons, List.length_nil, Nat.reduceAdd] <;> rfl)))
 | (refine st_nil ?_)
 | (apply st_a; (case hc => rfl); (case he => (simp only [go_sem, *] <;> rfl)); (case hu => (simp only [updL_nil, updL_cons] <;> rfl)); (case hp => first | trivial | omega))
 | (apply st_m; (case hc => rfl); (case hg => (simp only [go_sem, *] <;> rfl)); (case he => (intro hQz; (try simp only [wantB_t, wantB_f, Bool.and_eq_true, Bool.not_eq_true', Bool.not_true, Bool.not_false, and_true, true_and] at hQz); simp only [go_sem, *] <;> rfl)); (case hp => (intro hQz; (try simp only [wantB_t, wantB_f, Bool.and_eq_true, Bool.not_eq_true', Bool.or_eq_false_iff, decide_eq_true_eq, decide_eq_false_iff_not, beq_iff_eq, beq_eq_false_iff_ne, bne_iff_ne, bne_eq_false_iff_eq, Int.not_lt, Int.not_le, Int.ofNat_lt, Int.ofNat_le] at hQz); first | trivial)))
 | (apply st_c; (case hc => (simp only [go_sem, *] <;> rfl)); (case hl => (simp only [go_sem, *] <;> rfl)); (case hn => (simp only [go_sem, *] <;> rfl)); (case hp => first | exact c0 | (have hXz := c0; simp only [go_sem, *] at hXz; exact hXz)))
 | (refine Awp.ret ?_; try simp only [go_sem, *])
 | (refine Awp.skip ?_; try simp only [go_sem, *])
 | refine Awp.block ?_
 | (apply Awp.cond; (case hc => (simp only [go_sem, *] <;> rfl)); all_goals (intro hg; (try simp only [Bool.not_true, Bool.not_false, reduceCtorEq] at hg)))
 | refine Awp.seq ?_)
          all_goals repeat' (first | exact Lower.bool (by first | rfl | (simp only [true_and, Bool.true_and, Bool.false_and, Bool.and_true, Bool.and_false, Bool.true_or, Bool.false_or, reduceIte, Bool.false_eq_true, *]; done) | (simp only [true_and, reduceIte, Bool.false_eq_true, *] <;> rfl) | (simp [true_and]; done) | (simp_all [true_and]; done) | omega))
        · rw [hy] at hdb
          have hnx : ∀ j, j < k + 1 → unmet l T (q.af.getD j zeroB) = false := hnx0 (by rw [hdb]; rfl)
          clear hany hdb hnx0
          generalize hu : q.af.getD k zeroB = u at *
          repeat' (first
 | (apply Awp.sreg; (case hn => (simp only [List.length_cons, List.length_nil, Nat.reduceAdd] <;> rfl)))
 | (refine st_nil ?_)
 | (apply st_a; (case hc => rfl); (case he => (simp only [go_sem, *] <;> rfl)); (case hu => (simp only [updL_nil, updL_cons] <;> rfl)); (case hp => first | trivial | omega))
 | (apply st_m; (case hc => rfl); (case hg => (simp only [go_sem, *] <;> rfl)); (case he => (intro hQz; (try simp only [wantB_t, wantB_f, Bool.and_eq_true, Bool.not_eq_true', Bool.not_true, Bool.not_false, and_true, true_and] at hQz); simp only [go_sem, *] <;> rfl)); (case hp => (intro hQz; (try simp only [wantB_t, wantB_f, Bool.and_eq_true, Bool.not_eq_true', Bool.or_eq_false_iff, decide_eq_true_eq, decide_eq_false_iff_not, beq_iff_eq, beq_eq_false_iff_ne, bne_iff_ne, bne_eq_false_iff_eq, Int.not_lt, Int.not_le, Int.ofNat_lt, Int.ofNat_le] at hQz); first | trivial)))
 | (apply st_c; (case hc => (simp only [go_sem, *] <;> rfl)); (case hl => (simp only [go_sem, *] <;> rfl)); (case hn => (simp only [go_sem, *] <;> rfl)); (case hp => first | exact c0 | (have hXz := c0; simp only [go_sem, *] at hXz; exact hXz)))
 | (apply Awp.reg; (case hn => (simp only [List.length_cons, List.length_nil, Nat.reduceAdd] <;> rfl)))
 | (refine Awp.skip ?_; try simp only [go_sem, *])
 | refine Awp.block ?_
 | (apply Awp.cond; (case hc => (simp only [go_sem, *] <;> rfl)); all_goals (intro hg; (try simp only [Bool.not_true, Bool.not_false, reduceCtorEq] at hg)))
 | refine Awp.seq ?_)
          all_goals (refine ⟨k + 1, ⟨by omega, hnx⟩, by omega, ?_⟩; clear hnx c0; (apply Ghost.mk [(0, 0)] []; (case hdead => rfl); (case hinj => rfl); (case hV => (simp only [go_sem, *]) <;> (repeat' (first | refine And.intro ?_ ?_ | exact View.int (by first | rfl | omega | (simp; done) | (rw [wrap_i64] <;> (try simp only [Int.natCast_add]) <;> omega) | (simp [*]; done)) | exact .bp rfl (by decide)))); (case hB => (simp only [go_sem, *]) <;> (repeat' (first | exact ⟨_, rfl, BView.boxF rfl⟩)))))
    · have hkl' : ¬ (k : Int) < q.af.length := by omega
      have hf := any_end (p := unmet l T) (Nat.le_of_not_lt hkl) hj
      rw [hf]
      clear hj hf
      repeat' (first
 | (apply Awp.sreg; (case hn => (simp only [List.length_cons, List.length_nil, Nat.reduceAdd] <;> rfl)))
 | (refine st_nil ?_)
 | (apply st_a; (case hc => rfl); (case he => (simp only [go_sem, *] <;> rfl)); (case hu => (simp only [updL_nil, updL_cons] <;> rfl)); (case hp => first | trivial))
 | (refine Awp.ret ?_; try simp only [go_sem, *])
 | (refine Awp.exit ?_; try simp only [go_sem, *])
 | (apply Awp.cond; (case hc => (simp only [go_sem, *] <;> rfl)); all_goals (intro hg; (try simp only [Bool.not_true, Bool.not_false, reduceCtorEq] at hg)))
 | refine Awp.seq ?_)
      all_goals repeat' (first | exact Lower.bool (by first | rfl | (simp only [true_and, Bool.true_and, Bool.false_and, Bool.and_true, Bool.and_false, Bool.true_or, Bool.false_or, reduceIte, Bool.false_eq_true, *]; done) | (simp only [true_and, reduceIte, Bool.false_eq_true, *] <;> rfl) | (simp [true_and]; done) | (simp_all [true_and]; done) | omega))
end Go.Proofs
end
