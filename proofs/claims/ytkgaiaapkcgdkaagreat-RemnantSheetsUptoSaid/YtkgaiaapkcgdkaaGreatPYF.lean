import Derived.Test.YtkgaiaapkcgdkaaGreatPYE
import Derived.ProofKit
import Derived.OpenShut
import Derived.Test.YtkgaiaapkcgdkaaGreatRows
import Derived.WalkKit
import Derived.DataShut
import Derived.Deep.DeepHandedRow
import Derived.Lib.LaidTab
section
set_option linter.unusedVariables false
set_option linter.unusedSimpArgs false
namespace Go.Proofs
open Go Go.Ab
set_option maxHeartbeats 8000000
set_option maxRecDepth 100000
attribute [local irreducible] Awp aops aopsL Go.Ab.Pure PureOwn
theorem bnd_one (l : List Pt) (h : 0 < l.length) : bndE (l.take 1) = ⟨(l.getD 0 zeroPt).x, (l.getD 0 zeroPt).y, (l.getD 0 zeroPt).x, (l.getD 0 zeroPt).y⟩ := by
  cases l with
  | nil => simp at h
  | cons p l => simp [bndE, loE, hiE]
theorem bnd_step (l : List Pt) (i : Nat) (h : i < l.length) (h0 : 0 < i) : bndE (l.take (i + 1)) = ⟨min (bndE (l.take i)).a (l.getD i zeroPt).x, min (bndE (l.take i)).b (l.getD i zeroPt).y, max (bndE (l.take i)).c (l.getD i zeroPt).x, max (bndE (l.take i)).d (l.getD i zeroPt).y⟩ := by
  rw [take_snoc l zeroPt i h]
  have hp : 0 < (l.take i).length := by rw [List.length_take]; omega
  generalize l.take i = t at *
  cases t with
  | nil => simp at hp
  | cons p t => simp [bndE, loE, hiE]
theorem rbnd_ok (s : Sh) (hl : s.out.length < 1000000) : Pure Tryz.prog 17 [s.av] (bndE s.out).av := by
  have h1 := bnd_one s.out
  have h2 := fun i h => bnd_step s.out i h
  refine fn_pure Tryz.F17 (Nat.le_of_ble_eq_true rfl) ?_; unfold Tryz.ac17
  repeat' (first
 | (apply Awp.sreg; (case hn => (simp only [List.length_cons, List.length_nil, Nat.reduceAdd] <;> rfl)))
 | (refine st_nil ?_)
 | (apply st_a; (case hc => rfl); (case he => (simp only [go_sem, *] <;> rfl)); (case hu => (simp only [updL_nil, updL_cons] <;> rfl)); (case hp => first | trivial))
 | refine Awp.block ?_
 | refine Awp.seq ?_)
  refine Awp.loop (fun i : Nat => i ≤ s.out.length) 60 (fun i => mkS [(1, .bp 0 0), (2, .bp 1 0), (3, .bp 2 0), (4, .v (.int .i64 i))] [(0, .box s.cells), (1, .box [.v (.int .i64 0), .v (.int .i64 0), .v (.int .i64 0), .v (.int .i64 0)]), (2, .box (bndE (s.out.take i)).cells)]) (fun i => s.out.length - i) 0 (by omega) ?_ ?_
  · have e1 : bndE (s.out.take 0) = ⟨0, 0, 0, 0⟩ := rfl
    rw [e1]
    clear h1 h2
    (apply Ghost.mk [(0, 0), (1, 1), (2, 3)] []; (case hdead => rfl); (case hinj => rfl); (case hV => (simp only [go_sem, *]) <;> (repeat' (first | refine And.intro ?_ ?_ | exact View.int (by first | rfl | omega | (simp; done) | (rw [wrap_i64] <;> (try simp only [Int.natCast_add]) <;> omega) | (simp [*]; done)) | exact .bp rfl (by decide)))); (case hB => (simp only [go_sem, *]) <;> (repeat' (first | refine And.intro ?_ ?_ | exact ⟨_, rfl, BView.boxF rfl⟩))))
  · intro i hi
    by_cases hlt : i < s.out.length
    · have hlt' : (i : Int) < s.out.length := by omega
      have hat := pts_at s.out i hlt
      have hz : ((s.out.getD i zeroPt).cells).length = 2 := rfl
      by_cases h0 : i = 0
      · subst h0
        have h1 := h1 hlt
        rw [show ((0 : Nat) : Int) = 0 from rfl]
        have hz0 : ((0 : Int) == 0) = true := rfl
        have hlt0 : (0 : Int) < s.out.length := by omega
        rw [show s.out.take 0 = [] from rfl, show bndE [] = ⟨0, 0, 0, 0⟩ from rfl]
        have hat0 : (pts s.out).getD 0 [] = (s.out.getD 0 zeroPt).cells := hat
        clear h2 hat
        generalize s.out.getD 0 zeroPt = p at *
        have e1 : (if p.x < p.x then p.x else p.x) = p.x := by simp
        have e2 : (if p.y < p.y then p.y else p.y) = p.y := by simp
        repeat' (first
 | (apply Awp.sreg; (case hn => (simp only [List.length_cons, List.length_nil, Nat.reduceAdd] <;> rfl)))
 | (refine st_nil ?_)
 | (apply st_a; (case hc => rfl); (case he => (simp only [go_sem, *] <;> rfl)); (case hu => (simp only [updL_nil, updL_cons] <;> rfl)); (case hp => first | trivial))
 | (apply Awp.reg; (case hn => (simp only [List.length_cons, List.length_nil, Nat.reduceAdd] <;> rfl)))
 | (refine Awp.skip ?_; try simp only [go_sem, *])
 | refine Awp.block ?_
 | (apply Awp.cond; (case hc => (simp only [go_sem, *] <;> rfl)); all_goals (intro hg; (try simp only [Bool.not_true, Bool.not_false, reduceCtorEq] at hg)))
 | refine Awp.seq ?_)
        all_goals (refine ⟨1, by omega, by omega, ?_⟩; rw [h1]; clear h1; (apply Ghost.mk [(0, 0), (1, 1), (2, 2)] []; (case hdead => rfl); (case hinj => rfl); (case hV => (simp only [go_sem, *]) <;> (repeat' (first | refine And.intro ?_ ?_ | exact View.int (by first | rfl | omega | (simp; done) | (rw [wrap_i64] <;> (try simp only [Int.natCast_add]) <;> omega) | (simp [*]; done)) | exact .bp rfl (by decide)))); (case hB => (simp only [go_sem, *]) <;> (repeat' (first | refine And.intro ?_ ?_ | exact ⟨_, rfl, BView.boxF rfl⟩)))))
      · have h2 := h2 i hlt (by omega)
        have hne : ((i : Int) == 0) = false := by rw [beq_eq_false_iff_ne]; omega
        clear h1
        generalize bndE (s.out.take i) = R at *
        generalize s.out.getD i zeroPt = p at *
        have e1 := mnI R.a p.x
        have e2 := mnI R.b p.y
        have e3 := mxI R.c p.x
        have e4 := mxI R.d p.y
        repeat' (first
 | (apply Awp.sreg; (case hn => (simp only [List.length_cons, List.length_nil, Nat.reduceAdd] <;> rfl)))
 | (refine st_nil ?_)
 | (apply st_a; (case hc => rfl); (case he => (simp only [go_sem, *] <;> rfl)); (case hu => (simp only [updL_nil, updL_cons] <;> rfl)); (case hp => first | trivial | omega))
 | (apply Awp.reg; (case hn => (simp only [List.length_cons, List.length_nil, Nat.reduceAdd] <;> rfl)))
 | (refine Awp.skip ?_; try simp only [go_sem, *])
 | refine Awp.block ?_
 | (apply Awp.cond; (case hc => (simp only [go_sem, *] <;> rfl)); all_goals (intro hg; (try simp only [Bool.not_true, Bool.not_false, reduceCtorEq] at hg)))
 | refine Awp.seq ?_)
        all_goals (refine ⟨i + 1, by omega, by omega, ?_⟩; rw [h2]; clear h2; (apply Ghost.mk [(0, 0), (1, 1), (2, 2)] []; (case hdead => rfl); (case hinj => rfl); (case hV => (simp only [go_sem, *]) <;> (repeat' (first | refine And.intro ?_ ?_ | exact View.int (by first | rfl | omega | (simp; done) | (rw [wrap_i64] <;> (try simp only [Int.natCast_add]) <;> omega) | (simp [*]; done)) | exact .bp rfl (by decide)))); (case hB => (simp only [go_sem, *]) <;> (repeat' (first | refine And.intro ?_ ?_ | exact ⟨_, rfl, BView.boxF rfl⟩)))))
    · have hlt' : ¬ (i : Int) < s.out.length := by omega
      have e1 : s.out.take i = s.out := List.take_of_length_le (by omega)
      rw [e1]
      clear e1 h1 h2
      generalize bndE s.out = R at *
      repeat' (first
 | (apply Awp.sreg; (case hn => (simp only [List.length_cons, List.length_nil, Nat.reduceAdd] <;> rfl)))
 | (refine st_nil ?_)
 | (apply st_a; (case hc => rfl); (case he => (simp only [go_sem, *] <;> rfl)); (case hu => (simp only [updL_nil, updL_cons] <;> rfl)); (case hp => first | trivial))
 | (refine Awp.ret ?_; try simp only [go_sem, *])
 | (refine Awp.exit ?_; try simp only [go_sem, *])
 | (apply Awp.cond; (case hc => (simp only [go_sem, *] <;> rfl)); all_goals (intro hg; (try simp only [Bool.not_true, Bool.not_false, reduceCtorEq] at hg)))
 | refine Awp.seq ?_)
      all_goals repeat' (first | exact Lower.int (by first | rfl | (simp only [true_and, Bool.true_and, Bool.false_and, Bool.and_true, Bool.and_false, Bool.true_or, Bool.false_or, reduceIte, Bool.false_eq_true, *]; done) | (simp only [true_and, reduceIte, Bool.false_eq_true, *] <;> rfl) | (simp [true_and]; done) | (simp_all [true_and]; done) | omega) | refine Lower.aggF ?_ | refine All2.cons ?_ ?_ | exact All2.nil)
theorem rfind_ok (l : List Pa) (s : ByteArray) (hl : l.length < 1000000) : Pure Tryz.prog 34 [.sl (pas l), .v (.string s)] (.v (.int .i64 (idxF (isPa s) l))) := by
  refine fn_pure Tryz.F34 (Nat.le_of_ble_eq_true rfl) ?_; unfold Tryz.ac34
  repeat' (first
 | (apply Awp.sreg; (case hn => (simp only [List.length_cons, List.length_nil, Nat.reduceAdd] <;> rfl)))
 | (refine st_nil ?_)
 | (apply st_a; (case hc => rfl); (case he => (simp only [go_sem, *] <;> rfl)); (case hu => (simp only [updL_nil, updL_cons] <;> rfl)); (case hp => first | trivial))
 | refine Awp.block ?_
 | refine Awp.seq ?_)
  refine Awp.loop (fun i : Nat => i ≤ l.length ∧ ∀ j, j < i → isPa s (l.getD j zeroPa) = false) 40 (fun i => mkS [(0, .sl (pas l)), (1, .v (.string s)), (5, .v (.int .i64 i))] []) (fun i => l.length - i) 0 (by simp) ?_ ?_
  · (apply Ghost.mk [] []; (case hdead => rfl); (case hinj => rfl); (case hV => (simp only [go_sem, *]) <;> (repeat' (first | exact View.int (by first | rfl | omega | (simp; done) | (rw [wrap_i64] <;> (try simp only [Int.natCast_add]) <;> omega) | (simp [*]; done))))); (case hB => (simp only [go_sem, *]) <;> (repeat' (first | skip; done))))
  · intro i ⟨hi, hj⟩
    by_cases hlt : i < l.length
    · have hlt' : (i : Int) < l.length := by omega
      have hat := pas_at l i hlt
      have hz : ((l.getD i zeroPa).cells).length = 18 := rfl
      cases hv : isPa s (l.getD i zeroPa)
      · have hnx := ltSucc (P := fun j => isPa s (l.getD j zeroPa) = false) hj hv
        clear hj
        unfold isPa at hv
        repeat' (first
 | (apply Awp.sreg; (case hn => (simp only [List.length_cons, List.length_nil, Nat.reduceAdd] <;> rfl)))
 | (refine st_nil ?_)
 | (apply st_a; (case hc => rfl); (case he => (simp only [go_sem, *] <;> rfl)); (case hu => (simp only [updL_nil, updL_cons] <;> rfl)); (case hp => first | trivial | omega))
 | (apply Awp.reg; (case hn => (simp only [List.length_cons, List.length_nil, Nat.reduceAdd] <;> rfl)))
 | (refine Awp.skip ?_; try simp only [go_sem, *])
 | refine Awp.block ?_
 | (apply Awp.cond; (case hc => (simp only [go_sem, *] <;> rfl)); all_goals (intro hg; (try simp only [Bool.not_true, Bool.not_false, reduceCtorEq] at hg)))
 | refine Awp.seq ?_)
        all_goals (refine ⟨i + 1, ⟨by omega, hnx⟩, by omega, ?_⟩; clear hnx; (apply Ghost.mk [] []; (case hdead => rfl); (case hinj => rfl); (case hV => (simp only [go_sem, *]) <;> (repeat' (first | exact View.int (by first | rfl | omega | (simp; done) | (rw [wrap_i64] <;> (try simp only [Int.natCast_add]) <;> omega) | (simp [*]; done))))); (case hB => (simp only [go_sem, *]) <;> (repeat' (first | skip; done)))))
      · have hf := idxF_in (p := isPa s) hlt hv hj
        clear hj
        unfold isPa at hv
        repeat' (first
 | (apply Awp.sreg; (case hn => (simp only [List.length_cons, List.length_nil, Nat.reduceAdd] <;> rfl)))
 | (refine st_nil ?_)
 | (apply st_a; (case hc => rfl); (case he => (simp only [go_sem, *] <;> rfl)); (case hu => (simp only [updL_nil, updL_cons] <;> rfl)); (case hp => first | trivial | omega))
 | (refine Awp.ret ?_; try simp only [go_sem, *])
 | (refine Awp.skip ?_; try simp only [go_sem, *])
 | refine Awp.block ?_
 | (apply Awp.cond; (case hc => (simp only [go_sem, *] <;> rfl)); all_goals (intro hg; (try simp only [Bool.not_true, Bool.not_false, reduceCtorEq] at hg)))
 | refine Awp.seq ?_)
        all_goals repeat' (first | exact Lower.int (by first | rfl | (simp only [true_and, Bool.true_and, Bool.false_and, Bool.and_true, Bool.and_false, Bool.true_or, Bool.false_or, reduceIte, Bool.false_eq_true, *]; done) | (simp only [true_and, reduceIte, Bool.false_eq_true, *] <;> rfl) | (simp [true_and]; done) | (simp_all [true_and]; done) | omega))
    · have hlt' : ¬ (i : Int) < l.length := by omega
      have hf := idxF_out (p := isPa s) (Nat.le_of_not_lt hlt) hj
      clear hj
      repeat' (first
 | (apply Awp.sreg; (case hn => (simp only [List.length_cons, List.length_nil, Nat.reduceAdd] <;> rfl)))
 | (refine st_nil ?_)
 | (apply st_a; (case hc => rfl); (case he => (simp only [go_sem, *] <;> rfl)); (case hu => (simp only [updL_nil, updL_cons] <;> rfl)); (case hp => first | trivial))
 | (refine Awp.ret ?_; try simp only [go_sem, *])
 | (refine Awp.exit ?_; try simp only [go_sem, *])
 | (apply Awp.cond; (case hc => (simp only [go_sem, *] <;> rfl)); all_goals (intro hg; (try simp only [Bool.not_true, Bool.not_false, reduceCtorEq] at hg)))
 | refine Awp.seq ?_)
      all_goals repeat' (first | exact Lower.int (by first | rfl | (simp only [true_and, Bool.true_and, Bool.false_and, Bool.and_true, Bool.and_false, Bool.true_or, Bool.false_or, reduceIte, Bool.false_eq_true, *]; done) | (simp only [true_and, reduceIte, Bool.false_eq_true, *] <;> rfl) | (simp [true_and]; done) | (simp_all [true_and]; done) | omega))
theorem rside_ok (n : Int) : Pure Tryz.prog 58 [.v (.int .i64 n)] (.v (.bool (smallB n))) := by
  unfold smallB
  refine fn_pure Tryz.F58 (Nat.le_of_ble_eq_true rfl) ?_; unfold Tryz.ac58
  repeat' (first
 | (apply Awp.sreg; (case hn => (simp only [List.length_cons, List.length_nil, Nat.reduceAdd] <;> rfl)))
 | (refine st_nil ?_)
 | (apply st_a; (case hc => rfl); (case he => (simp only [go_sem, *] <;> rfl)); (case hu => (simp only [updL_nil, updL_cons] <;> rfl)); (case hp => first | trivial))
 | (apply st_m; (case hc => rfl); (case hg => (simp only [go_sem, *] <;> rfl)); (case he => (intro hQz; (try simp only [wantB_t, wantB_f, Bool.and_eq_true, Bool.not_eq_true', Bool.not_true, Bool.not_false, and_true, true_and] at hQz); simp only [go_sem, *] <;> rfl)); (case hp => (intro hQz; (try simp only [wantB_t, wantB_f, Bool.and_eq_true, Bool.not_eq_true', Bool.or_eq_false_iff, decide_eq_true_eq, decide_eq_false_iff_not, beq_iff_eq, beq_eq_false_iff_ne, bne_iff_ne, bne_eq_false_iff_eq, Int.not_lt, Int.not_le, Int.ofNat_lt, Int.ofNat_le] at hQz); first | trivial)))
 | (refine Awp.ret ?_; try simp only [go_sem, *]))
  all_goals repeat' (first | exact Lower.bool (by first | rfl | (simp only [true_and, Bool.true_and, Bool.false_and, Bool.and_true, Bool.and_false, Bool.true_or, Bool.false_or, reduceIte, Bool.false_eq_true, *]; done) | (simp only [true_and, reduceIte, Bool.false_eq_true, *] <;> rfl) | (simp [true_and]; done) | (simp_all [true_and]; done) | omega))
theorem rplaced_ok (s : Spt) : Pure Tryz.prog 35 [s.av] (.v (.bool (placedB s))) := by
  have a1 := rside_ok s.x
  have a2 := rside_ok s.y
  unfold placedB
  generalize smallB s.x = b1 at *
  generalize smallB s.y = b2 at *
  refine fn_pure Tryz.F35 (Nat.le_of_ble_eq_true rfl) ?_; unfold Tryz.ac35
  repeat' (first
 | (apply Awp.sreg; (case hn => (simp only [List.length_cons, List.length_nil, Nat.reduceAdd] <;> rfl)))
 | (refine st_nil ?_)
 | (apply st_a; (case hc => rfl); (case he => (simp only [go_sem, *] <;> rfl)); (case hu => (simp only [updL_nil, updL_cons] <;> rfl)); (case hp => first | trivial))
 | (apply st_m; (case hc => rfl); (case hg => (simp only [go_sem, *] <;> rfl)); (case he => (intro hQz; (try simp only [wantB_t, wantB_f, Bool.and_eq_true, Bool.not_eq_true', Bool.not_true, Bool.not_false, and_true, true_and] at hQz); simp only [go_sem, *] <;> rfl)); (case hp => (intro hQz; (try simp only [wantB_t, wantB_f, Bool.and_eq_true, Bool.not_eq_true', Bool.or_eq_false_iff, decide_eq_true_eq, decide_eq_false_iff_not, beq_iff_eq, beq_eq_false_iff_ne, bne_iff_ne, bne_eq_false_iff_eq, Int.not_lt, Int.not_le, Int.ofNat_lt, Int.ofNat_le] at hQz); first | trivial)))
 | (apply st_mc; (case hop => rfl); (case hg => (simp only [go_sem, *] <;> rfl)); (case hc => (intro hQz; (try simp only [wantB_t, wantB_f, Bool.and_eq_true, Bool.not_eq_true', Bool.not_true, Bool.not_false, and_true, true_and] at hQz); simp only [go_sem, *] <;> rfl)); (case hl => (intro hQz; (try simp only [wantB_t, wantB_f, Bool.and_eq_true, Bool.not_eq_true', Bool.not_true, Bool.not_false, and_true, true_and] at hQz); simp only [go_sem, *] <;> rfl)); (case hn => (intro hQz; (try simp only [wantB_t, wantB_f, Bool.and_eq_true, Bool.not_eq_true', Bool.not_true, Bool.not_false, and_true, true_and] at hQz); simp only [go_sem, *] <;> rfl)); (case hp => intro hQz; first | exact a1 | (have hXz := a1; simp only [go_sem, *] at hXz; exact hXz)))
 | (apply st_mc; (case hop => rfl); (case hg => (simp only [go_sem, *] <;> rfl)); (case hc => (intro hQz; (try simp only [wantB_t, wantB_f, Bool.and_eq_true, Bool.not_eq_true', Bool.not_true, Bool.not_false, and_true, true_and] at hQz); simp only [go_sem, *] <;> rfl)); (case hl => (intro hQz; (try simp only [wantB_t, wantB_f, Bool.and_eq_true, Bool.not_eq_true', Bool.not_true, Bool.not_false, and_true, true_and] at hQz); simp only [go_sem, *] <;> rfl)); (case hn => (intro hQz; (try simp only [wantB_t, wantB_f, Bool.and_eq_true, Bool.not_eq_true', Bool.not_true, Bool.not_false, and_true, true_and] at hQz); simp only [go_sem, *] <;> rfl)); (case hp => intro hQz; first | exact a2 | (have hXz := a2; simp only [go_sem, *] at hXz; exact hXz)))
 | (refine Awp.ret ?_; try simp only [go_sem, *]))
  all_goals repeat' (first | exact Lower.bool (by first | rfl | (simp only [true_and, Bool.true_and, Bool.false_and, Bool.and_true, Bool.and_false, Bool.true_or, Bool.false_or, reduceIte, Bool.false_eq_true, *]; done) | (simp only [true_and, reduceIte, Bool.false_eq_true, *] <;> rfl) | (simp [true_and]; done) | (simp_all [true_and]; done) | omega))
theorem part_idx (ps : List Pa) (s : ByteArray) : ((partE ps s).2 = false ∧ idxF (isPa s) ps = -1) ∨ ((partE ps s).2 = true ∧ ∃ k : Nat, k < ps.length ∧ idxF (isPa s) ps = k ∧ (partE ps s).1 = ps.getD k zeroPa) := by
  unfold partE
  cases hA : ps.any (isPa s)
  · refine .inl ⟨rfl, ?_⟩
    have := idxF_any (isPa s) ps
    rw [hA] at this
    have hlt := of_decide_eq_false this
    unfold idxF at hlt ⊢
    split
    · rename_i h; rw [if_pos h] at hlt; omega
    · rfl
  · have hin : ps.findIdx (isPa s) < ps.length := List.findIdx_lt_length_of_exists (by
      obtain ⟨x, hx, hp⟩ := List.any_eq_true.1 hA
      exact ⟨x, hx, hp⟩)
    exact .inr ⟨rfl, _, hin, by unfold idxF; rw [if_pos hin], rfl⟩
theorem rshapes_ok (nm : ByteArray) (gap : Int) (ts : List Spt) (ps : List Pa) (h : FewP ts ps) : Pure Tryz.prog 16 [nestAv nm gap ts, .sl (pas ps)] (.tup [.sl (shs (shapesE ts ps).1), .v (.int .i64 (shapesE ts ps).2)]) := by
  have hfew := fun s => part_few h s
  have kp := fun s => rfind_ok ps s h.pl
  have hpi := fun s => part_idx ps s
  have hpl := h.pl
  have htl := h.tl
  clear h
  refine fn_pure Tryz.F16 (Nat.le_of_ble_eq_true rfl) ?_; unfold Tryz.ac16
  repeat' (first
 | (apply Awp.sreg; (case hn => (simp only [List.length_cons, List.length_nil, Nat.reduceAdd] <;> rfl)))
 | (refine st_nil ?_)
 | (apply st_a; (case hc => rfl); (case he => (simp only [go_sem, *] <;> rfl)); (case hu => (simp only [updL_nil, updL_cons] <;> rfl)); (case hp => first | trivial))
 | refine Awp.block ?_
 | refine Awp.seq ?_)
  refine Awp.loop (fun i : Nat => i ≤ ts.length ∧ ∀ j, j < i → (spErr ps (ts.getD j zeroSpt) != 0) = false) 60 (fun i => mkS [(1, .sl (pas ps)), (2, .bp 0 0), (6, .own 1), (7, .v (.int .i64 i))] [(0, .box [.v (.string nm), .v (.int .i64 gap), .sl (spts ts)]), (1, .row (shs ((ts.take i).map (shapeOf ps))) 2 43)]) (fun i => ts.length - i) 0 (by simp) ?_ ?_
  · refine Ghost.trans (Ghost.name 6 2 43 rfl (by decide)) ?_
    have e1 : shs ((ts.take 0).map (shapeOf ps)) = [] := rfl
    rw [e1]
    clear hfew kp hpi
    (apply Ghost.mk [(0, 0), (1, 5)] []; (case hdead => rfl); (case hinj => rfl); (case hV => (simp only [go_sem, *]) <;> (repeat' (first | refine And.intro ?_ ?_ | exact View.int (by first | rfl | omega | (simp; done) | (rw [wrap_i64] <;> (try simp only [Int.natCast_add]) <;> omega) | (simp [*]; done)) | exact .bp rfl (by decide) | exact .own rfl (by decide)))); (case hB => (simp only [go_sem, *]) <;> (repeat' (first | refine And.intro ?_ ?_ | exact ⟨_, rfl, BView.boxF rfl⟩ | exact ⟨_, rfl, .rowE (by first | rfl | omega | (simp; done) | (rw [wrap_i64] <;> (try simp only [Int.natCast_add]) <;> omega) | (simp [*]; done))⟩))))
  · intro i ⟨hi, hj⟩
    by_cases hlt : i < ts.length
    · have hlt' : (i : Int) < ts.length := by omega
      have hat := spts_at ts i hlt
      have hz : ((ts.getD i zeroSpt).cells).length = 5 := rfl
      have k1 := kp (ts.getD i zeroSpt).part
      have k2 := rplaced_ok (ts.getD i zeroSpt)
      rcases hpi (ts.getD i zeroSpt).part with ⟨hf, hix⟩ | ⟨hf, k, hkl, hix, hpa⟩
      · have he : spErr ps (ts.getD i zeroSpt) = 8 := by unfold spErr; rw [hf]; rfl
        have hs := shapes_some hlt (by rw [he]; rfl) hj
        rw [hs, he]
        rw [hix] at k1
        have e1 : shs [] = [] := rfl
        have hd : decide ((-1 : Int) < 0) = true := rfl
        clear hj hs he hfew kp k2 hf hpi hix
        generalize ts.getD i zeroSpt = t at *
        repeat' (first
 | (apply Awp.sreg; (case hn => (simp only [List.length_cons, List.length_nil, Nat.reduceAdd] <;> rfl)))
 | (refine st_nil ?_)
 | (apply st_a; (case hc => rfl); (case he => (simp only [go_sem, *] <;> rfl)); (case hu => (simp only [updL_nil, updL_cons] <;> rfl)); (case hp => first | trivial | omega))
 | (apply st_c; (case hc => (simp only [go_sem, *] <;> rfl)); (case hl => (simp only [go_sem, *] <;> rfl)); (case hn => (simp only [go_sem, *] <;> rfl)); (case hp => first | exact k1 | (have hXz := k1; simp only [go_sem, *] at hXz; exact hXz)))
 | (refine Awp.ret ?_; try simp only [go_sem, *])
 | (refine Awp.skip ?_; try simp only [go_sem, *])
 | refine Awp.block ?_
 | (apply Awp.cond; (case hc => (simp only [go_sem, *] <;> rfl)); all_goals (intro hg; (try simp only [Bool.not_true, Bool.not_false, reduceCtorEq] at hg)))
 | refine Awp.seq ?_)
        all_goals repeat' (first | exact Lower.int (by first | rfl | (simp only [true_and, Bool.true_and, Bool.false_and, Bool.and_true, Bool.and_false, Bool.true_or, Bool.false_or, reduceIte, Bool.false_eq_true, *]; done) | (simp only [true_and, reduceIte, Bool.false_eq_true, *] <;> rfl) | (simp [true_and]; done) | (simp_all [true_and]; done) | omega) | exact Lower.nilE (by first | rfl | (simp only [true_and, Bool.true_and, Bool.false_and, Bool.and_true, Bool.and_false, Bool.true_or, Bool.false_or, reduceIte, Bool.false_eq_true, *]; done) | (simp only [true_and, reduceIte, Bool.false_eq_true, *] <;> rfl) | (simp [true_and]; done) | (simp_all [true_and]; done) | omega) | refine Lower.tupF ?_ | refine All2.cons ?_ ?_ | exact All2.nil)
      · have hd : decide ((k : Int) < 0) = false := decide_eq_false (by omega)
        rw [hix] at k1
        cases hp : placedB (ts.getD i zeroSpt)
        · have he : spErr ps (ts.getD i zeroSpt) = 9 := by unfold spErr; rw [hf, hp]; rfl
          have hs := shapes_some hlt (by rw [he]; rfl) hj
          rw [hs, he]
          rw [hp] at k2
          have e1 : shs [] = [] := rfl
          clear hj hs he hfew kp hf hp hpi hix hpa
          generalize ts.getD i zeroSpt = t at *
          repeat' (first
 | (apply Awp.sreg; (case hn => (simp only [List.length_cons, List.length_nil, Nat.reduceAdd] <;> rfl)))
 | (refine st_nil ?_)
 | (apply st_a; (case hc => rfl); (case he => (simp only [go_sem, *] <;> rfl)); (case hu => (simp only [updL_nil, updL_cons] <;> rfl)); (case hp => first | trivial | omega))
 | (apply st_c; (case hc => (simp only [go_sem, *] <;> rfl)); (case hl => (simp only [go_sem, *] <;> rfl)); (case hn => (simp only [go_sem, *] <;> rfl)); (case hp => first | exact k1 | (have hXz := k1; simp only [go_sem, *] at hXz; exact hXz)))
 | (apply st_c; (case hc => (simp only [go_sem, *] <;> rfl)); (case hl => (simp only [go_sem, *] <;> rfl)); (case hn => (simp only [go_sem, *] <;> rfl)); (case hp => first | exact k2 | (have hXz := k2; simp only [go_sem, *] at hXz; exact hXz)))
 | (refine Awp.ret ?_; try simp only [go_sem, *])
 | (refine Awp.skip ?_; try simp only [go_sem, *])
 | refine Awp.block ?_
 | (apply Awp.cond; (case hc => (simp only [go_sem, *] <;> rfl)); all_goals (intro hg; (try simp only [Bool.not_true, Bool.not_false, reduceCtorEq] at hg)))
 | refine Awp.seq ?_)
          all_goals repeat' (first | exact Lower.int (by first | rfl | (simp only [true_and, Bool.true_and, Bool.false_and, Bool.and_true, Bool.and_false, Bool.true_or, Bool.false_or, reduceIte, Bool.false_eq_true, *]; done) | (simp only [true_and, reduceIte, Bool.false_eq_true, *] <;> rfl) | (simp [true_and]; done) | (simp_all [true_and]; done) | omega) | exact Lower.nilE (by first | rfl | (simp only [true_and, Bool.true_and, Bool.false_and, Bool.and_true, Bool.and_false, Bool.true_or, Bool.false_or, reduceIte, Bool.false_eq_true, *]; done) | (simp only [true_and, reduceIte, Bool.false_eq_true, *] <;> rfl) | (simp [true_and]; done) | (simp_all [true_and]; done) | omega) | refine Lower.tupF ?_ | refine All2.cons ?_ ?_ | exact All2.nil)
        · have he : spErr ps (ts.getD i zeroSpt) = 0 := by unfold spErr; rw [hf, hp]; rfl
          have hnx := ltSucc (P := fun j => (spErr ps (ts.getD j zeroSpt) != 0) = false) hj (by rw [he]; rfl)
          rw [hp] at k2
          have hst : (ts.take (i + 1)).map (shapeOf ps) = (ts.take i).map (shapeOf ps) ++ [moveE (partE ps (ts.getD i zeroSpt).part).1.sh (ts.getD i zeroSpt)] := by rw [take_snoc ts zeroSpt i hlt]; simp [shapeOf]
          have hln : ((ts.take i).map (shapeOf ps)).length = i := by simp; omega
          have hfw := hfew (ts.getD i zeroSpt).part
          have k3 := rmove_ok (partE ps (ts.getD i zeroSpt).part).1.sh (ts.getD i zeroSpt) hfw.2 hfw.1
          have e3 := shs_snoc ((ts.take i).map (shapeOf ps)) (moveE (partE ps (ts.getD i zeroSpt).part).1.sh (ts.getD i zeroSpt))
          rw [hpa] at hst k3 e3
          have hatp := pas_at ps k hkl
          have hzp : ((ps.getD k zeroPa).cells).length = 18 := rfl
          have hkl' : (k : Int) < ps.length := by omega
          clear hj he hfew kp hf hp hfw hpi hix hpa
          generalize ts.getD i zeroSpt = t at *
          generalize ps.getD k zeroPa = pa at *
          generalize moveE pa.sh t = M at *
          generalize (ts.take i).map (shapeOf ps) = L at *
          repeat' (first
 | (apply Awp.sreg; (case hn => (simp only [List.length_cons, List.length_nil, Nat.reduceAdd] <;> rfl)))
 | (refine st_nil ?_)
 | (apply st_a; (case hc => rfl); (case he => (simp only [go_sem, *] <;> rfl)); (case hu => (simp only [updL_nil, updL_cons] <;> rfl)); (case hp => first | trivial | omega))
 | (apply st_c; (case hc => (simp only [go_sem, *] <;> rfl)); (case hl => (simp only [go_sem, *] <;> rfl)); (case hn => (simp only [go_sem, *] <;> rfl)); (case hp => first | exact k1 | (have hXz := k1; simp only [go_sem, *] at hXz; exact hXz)))
 | (apply st_c; (case hc => (simp only [go_sem, *] <;> rfl)); (case hl => (simp only [go_sem, *] <;> rfl)); (case hn => (simp only [go_sem, *] <;> rfl)); (case hp => first | exact k2 | (have hXz := k2; simp only [go_sem, *] at hXz; exact hXz)))
 | (apply Awp.reg; (case hn => (simp only [List.length_cons, List.length_nil, Nat.reduceAdd] <;> rfl)))
 | (refine Awp.skip ?_; try simp only [go_sem, *])
 | refine Awp.block ?_
 | (apply Awp.cond; (case hc => (simp only [go_sem, *] <;> rfl)); all_goals (intro hg; (try simp only [Bool.not_true, Bool.not_false, reduceCtorEq] at hg)))
 | refine Awp.seq ?_
 | (refine Awp.draw ?_)
 | (apply sl_a; (case hc => rfl); (case he => (simp only [go_sem, *] <;> rfl)); (case hu => (simp only [updL_nil, updL_cons] <;> rfl)); (case hl => (simp only [List.map_cons, List.map_nil] <;> rfl)); (case hp => first | trivial | omega | (simp; done) | (simp; omega)))
 | (apply sl_c; (case hc => (simp only [go_sem, *] <;> rfl)); (case hl => (simp only [go_sem, *] <;> rfl)); (case hn => (simp only [go_sem, *] <;> rfl)); (case hp => first | exact k3 | (have hXz := k3; simp only [go_sem, *] at hXz; exact hXz)); (case hd => first | exact .inl rfl | exact .inr (.v _) | exact .inr .any | exact .inr .nils | (refine .inr ?_; (repeat' (first | exact Dry.v _ | exact Dry.any | exact Dry.nils | exact Dry.slE | refine Dry.agg ?_ | refine Dry.tup ?_ | (refine List.forall_mem_cons.2 (And.intro ?_ ?_)) | (intro cQ hQ; cases hQ; done))); done)); (case hm => first | decide | (simp; done)))
 | (refine sl_nil (And.intro (by first | exact drawOk_of (by decide +kernel) | (simp only [List.map_cons, List.map_nil]; exact drawOk_of (by decide +kernel)) | decide) ?_)))
          all_goals (refine ⟨i + 1, ⟨by omega, hnx⟩, by omega, ?_⟩; rw [hst, ← e3]; clear hst hnx e3 k1 k2 k3; (apply Ghost.mk [(0, 0), (1, 96)] []; (case hdead => rfl); (case hinj => rfl); (case hV => (simp only [go_sem, *]) <;> (repeat' (first | refine And.intro ?_ ?_ | exact View.int (by first | rfl | omega | (simp; done) | (rw [wrap_i64] <;> (try simp only [Int.natCast_add]) <;> omega) | (simp [*]; done)) | exact .bp rfl (by decide) | exact .own rfl (by decide)))); (case hB => (simp only [go_sem, *]) <;> (repeat' (first | refine And.intro ?_ ?_ | exact ⟨_, rfl, BView.boxF rfl⟩ | exact ⟨_, rfl, .rowE (by first | rfl | omega | (simp; done) | (rw [wrap_i64] <;> (try simp only [Int.natCast_add]) <;> omega) | (simp [*]; done))⟩)))))
    · have hlt' : ¬ (i : Int) < ts.length := by omega
      have e1 : ts.take i = ts := List.take_of_length_le (by omega)
      rw [shapes_none fun j h => hj j (by omega), e1]
      clear e1 hj hfew kp hpi
      repeat' (first
 | (apply Awp.sreg; (case hn => (simp only [List.length_cons, List.length_nil, Nat.reduceAdd] <;> rfl)))
 | (refine st_nil ?_)
 | (apply st_a; (case hc => rfl); (case he => (simp only [go_sem, *] <;> rfl)); (case hu => (simp only [updL_nil, updL_cons] <;> rfl)); (case hp => first | trivial))
 | (refine Awp.ret ?_; try simp only [go_sem, *])
 | (refine Awp.exit ?_; try simp only [go_sem, *])
 | (apply Awp.cond; (case hc => (simp only [go_sem, *] <;> rfl)); all_goals (intro hg; (try simp only [Bool.not_true, Bool.not_false, reduceCtorEq] at hg)))
 | refine Awp.seq ?_)
      all_goals repeat' (first | exact Lower.int (by first | rfl | (simp only [true_and, Bool.true_and, Bool.false_and, Bool.and_true, Bool.and_false, Bool.true_or, Bool.false_or, reduceIte, Bool.false_eq_true, *]; done) | (simp only [true_and, reduceIte, Bool.false_eq_true, *] <;> rfl) | (simp [true_and]; done) | (simp_all [true_and]; done) | omega) | exact Lower.ownE (by simp only [go_sem, *] <;> rfl) (by first | rfl | (simp only [true_and, Bool.true_and, Bool.false_and, Bool.and_true, Bool.and_false, Bool.true_or, Bool.false_or, reduceIte, Bool.false_eq_true, *]; done) | (simp only [true_and, reduceIte, Bool.false_eq_true, *] <;> rfl) | (simp [true_and]; done) | (simp_all [true_and]; done) | omega) | refine Lower.tupF ?_ | refine All2.cons ?_ ?_ | exact All2.nil)
theorem rtaken_ok (nm : ByteArray) (gap : Int) (ts : List Spt) (ps : List Pa) (h : FewP ts ps) : Pure Tryz.prog 7 [nestAv nm gap ts, .sl (pas ps)] (.tup [.sl (rcs (takenE ts ps).1), .v (.int .i64 (takenE ts ps).2)]) := by
  have k1 := rshapes_ok nm gap ts ps h
  obtain ⟨hS1, hS2⟩ := shapes_few h
  unfold takenE
  clear h
  generalize (shapesE ts ps).1 = S at *
  generalize (shapesE ts ps).2 = e at *
  cases he : (e != 0)
  case true =>
    rw [if_pos rfl]
    have e1 : rcs [] = [] := rfl
    clear hS2
    refine fn_pure Tryz.F7 (Nat.le_of_ble_eq_true rfl) ?_; unfold Tryz.ac7
    repeat' (first
 | (apply Awp.sreg; (case hn => (simp only [List.length_cons, List.length_nil, Nat.reduceAdd] <;> rfl)))
 | (refine st_nil ?_)
 | (apply st_a; (case hc => rfl); (case he => (simp only [go_sem, *] <;> rfl)); (case hu => (simp only [updL_nil, updL_cons] <;> rfl)); (case hp => first | trivial))
 | (apply st_c; (case hc => (simp only [go_sem, *] <;> rfl)); (case hl => (simp only [go_sem, *] <;> rfl)); (case hn => (simp only [go_sem, *] <;> rfl)); (case hp => first | exact k1 | (have hXz := k1; simp only [go_sem, *] at hXz; exact hXz)))
 | (refine Awp.ret ?_; try simp only [go_sem, *])
 | (apply Awp.cond; (case hc => (simp only [go_sem, *] <;> rfl)); all_goals (intro hg; (try simp only [Bool.not_true, Bool.not_false, reduceCtorEq] at hg)))
 | refine Awp.seq ?_)
    all_goals repeat' (first | exact Lower.int (by first | rfl | (simp only [true_and, Bool.true_and, Bool.false_and, Bool.and_true, Bool.and_false, Bool.true_or, Bool.false_or, reduceIte, Bool.false_eq_true, *]; done) | (simp only [true_and, reduceIte, Bool.false_eq_true, *] <;> rfl) | (simp [true_and]; done) | (simp_all [true_and]; done) | omega) | exact Lower.nilE (by first | rfl | (simp only [true_and, Bool.true_and, Bool.false_and, Bool.and_true, Bool.and_false, Bool.true_or, Bool.false_or, reduceIte, Bool.false_eq_true, *]; done) | (simp only [true_and, reduceIte, Bool.false_eq_true, *] <;> rfl) | (simp [true_and]; done) | (simp_all [true_and]; done) | omega) | refine Lower.tupF ?_ | refine All2.cons ?_ ?_ | exact All2.nil)
  rw [if_neg (by decide)]
  have kb := fun s hs => rbnd_ok s (hS2 s hs)
  have hin := fun i (h : i < S.length) => getD_in S zeroSh i h
  clear hS2
  refine fn_pure Tryz.F7 (Nat.le_of_ble_eq_true rfl) ?_; unfold Tryz.ac7
  repeat' (first
 | (apply Awp.sreg; (case hn => (simp only [List.length_cons, List.length_nil, Nat.reduceAdd] <;> rfl)))
 | (refine st_nil ?_)
 | (apply st_a; (case hc => rfl); (case he => (simp only [go_sem, *] <;> rfl)); (case hu => (simp only [updL_nil, updL_cons] <;> rfl)); (case hp => first | trivial))
 | (apply st_c; (case hc => (simp only [go_sem, *] <;> rfl)); (case hl => (simp only [go_sem, *] <;> rfl)); (case hn => (simp only [go_sem, *] <;> rfl)); (case hp => first | exact k1 | (have hXz := k1; simp only [go_sem, *] at hXz; exact hXz)))
 | (refine Awp.skip ?_; try simp only [go_sem, *])
 | refine Awp.block ?_
 | (apply Awp.cond; (case hc => (simp only [go_sem, *] <;> rfl)); all_goals (intro hg; (try simp only [Bool.not_true, Bool.not_false, reduceCtorEq] at hg)))
 | refine Awp.seq ?_)
  clear k1
  refine Awp.loop (fun i : Nat => i ≤ S.length) 60 (fun i => mkS [(6, .sl (shs S)), (8, .own 0), (9, .v (.int .i64 i))] [(0, .row (rcs ((S.take i).map fun s => bndE s.out)) 4 54)]) (fun i => S.length - i) 0 (by omega) ?_ ?_
  · refine Ghost.trans (Ghost.name 8 4 54 rfl (by decide)) ?_
    have e1 : rcs ((S.take 0).map fun s => bndE s.out) = [] := rfl
    rw [e1]
    clear kb hin
    (apply Ghost.mk [(0, 15)] []; (case hdead => rfl); (case hinj => rfl); (case hV => (simp only [go_sem, *]) <;> (repeat' (first | refine And.intro ?_ ?_ | exact View.int (by first | rfl | omega | (simp; done) | (rw [wrap_i64] <;> (try simp only [Int.natCast_add]) <;> omega) | (simp [*]; done)) | exact .own rfl (by decide)))); (case hB => (simp only [go_sem, *]) <;> (repeat' (first | exact ⟨_, rfl, .rowE (by first | rfl | omega | (simp; done) | (rw [wrap_i64] <;> (try simp only [Int.natCast_add]) <;> omega) | (simp [*]; done))⟩))))
  · intro i hi
    by_cases hlt : i < S.length
    · have hlt' : (i : Int) < S.length := by omega
      have hat := shs_at S i hlt
      have hz : ((S.getD i zeroSh).cells).length = 2 := rfl
      have k2 := kb _ (hin i hlt)
      have hst : (S.take (i + 1)).map (fun s => bndE s.out) = (S.take i).map (fun s => bndE s.out) ++ [bndE (S.getD i zeroSh).out] := by rw [take_snoc S zeroSh i hlt]; simp
      have hln : ((S.take i).map fun s => bndE s.out).length = i := by simp; omega
      have e3 := rcs_snocC ((S.take i).map fun s => bndE s.out) (bndE (S.getD i zeroSh).out)
      clear kb hin
      generalize bndE (S.getD i zeroSh).out = B at *
      generalize (S.take i).map (fun s => bndE s.out) = L at *
      generalize S.getD i zeroSh = s at *
      repeat' (first
 | (apply Awp.sreg; (case hn => (simp only [List.length_cons, List.length_nil, Nat.reduceAdd] <;> rfl)))
 | (refine st_nil ?_)
 | (apply st_a; (case hc => rfl); (case he => (simp only [go_sem, *] <;> rfl)); (case hu => (simp only [updL_nil, updL_cons] <;> rfl)); (case hp => first | trivial | omega | (simp; done) | (simp; omega)))
 | (apply st_c; (case hc => (simp only [go_sem, *] <;> rfl)); (case hl => (simp only [go_sem, *] <;> rfl)); (case hn => (simp only [go_sem, *] <;> rfl)); (case hp => first | exact k2 | (have hXz := k2; simp only [go_sem, *] at hXz; exact hXz)))
 | (apply Awp.reg; (case hn => (simp only [List.length_cons, List.length_nil, Nat.reduceAdd] <;> rfl)))
 | (refine Awp.skip ?_; try simp only [go_sem, *])
 | refine Awp.block ?_
 | (apply Awp.cond; (case hc => (simp only [go_sem, *] <;> rfl)); all_goals (intro hg; (try simp only [Bool.not_true, Bool.not_false, reduceCtorEq] at hg)))
 | refine Awp.seq ?_)
      all_goals (refine ⟨i + 1, by omega, by omega, ?_⟩; rw [hst, ← e3]; clear hst e3 k2; (apply Ghost.mk [(0, 71)] []; (case hdead => rfl); (case hinj => rfl); (case hV => (simp only [go_sem, *]) <;> (repeat' (first | refine And.intro ?_ ?_ | exact View.int (by first | rfl | omega | (simp; done) | (rw [wrap_i64] <;> (try simp only [Int.natCast_add]) <;> omega) | (simp [*]; done)) | exact .own rfl (by decide)))); (case hB => (simp only [go_sem, *]) <;> (repeat' (first | exact ⟨_, rfl, .rowE (by first | rfl | omega | (simp; done) | (rw [wrap_i64] <;> (try simp only [Int.natCast_add]) <;> omega) | (simp [*]; done))⟩)))))
    · have hlt' : ¬ (i : Int) < S.length := by omega
      have e1 : S.take i = S := List.take_of_length_le (by omega)
      rw [e1]
      clear e1 kb hin
      repeat' (first
 | (apply Awp.sreg; (case hn => (simp only [List.length_cons, List.length_nil, Nat.reduceAdd] <;> rfl)))
 | (refine st_nil ?_)
 | (apply st_a; (case hc => rfl); (case he => (simp only [go_sem, *] <;> rfl)); (case hu => (simp only [updL_nil, updL_cons] <;> rfl)); (case hp => first | trivial))
 | (refine Awp.ret ?_; try simp only [go_sem, *])
 | (refine Awp.exit ?_; try simp only [go_sem, *])
 | (apply Awp.cond; (case hc => (simp only [go_sem, *] <;> rfl)); all_goals (intro hg; (try simp only [Bool.not_true, Bool.not_false, reduceCtorEq] at hg)))
 | refine Awp.seq ?_)
      all_goals repeat' (first | exact Lower.int (by first | rfl | (simp only [true_and, Bool.true_and, Bool.false_and, Bool.and_true, Bool.and_false, Bool.true_or, Bool.false_or, reduceIte, Bool.false_eq_true, *]; done) | (simp only [true_and, reduceIte, Bool.false_eq_true, *] <;> rfl) | (simp [true_and]; done) | (simp_all [true_and]; done) | omega) | exact Lower.ownE (by simp only [go_sem, *] <;> rfl) (by first | rfl | (simp only [true_and, Bool.true_and, Bool.false_and, Bool.and_true, Bool.and_false, Bool.true_or, Bool.false_or, reduceIte, Bool.false_eq_true, *]; done) | (simp only [true_and, reduceIte, Bool.false_eq_true, *] <;> rfl) | (simp [true_and]; done) | (simp_all [true_and]; done) | omega) | refine Lower.tupF ?_ | refine All2.cons ?_ ?_ | exact All2.nil)
end Go.Proofs
end
section
set_option linter.unusedVariables false
set_option linter.unusedSimpArgs false
namespace Go.Proofs
open Go Go.Ab
set_option maxHeartbeats 8000000
set_option maxRecDepth 100000
attribute [local irreducible] Awp aops aopsL Go.Ab.Pure PureOwn
theorem pureV_nilc {st : Nat → Prop} {w : World} {es es' : List (List AV)} {c : Value} (hl : es'.length = es.length) (hz : ∀ i : Nat, i < es.length → (es.getD i []).length = (es'.getD i []).length)
    (hc : ∀ i j : Nat, i < es.length → j < (es.getD i []).length → av (es.getD i []) j = av (es'.getD i []) j ∨ (av (es'.getD i []) j = .nils ∧ av (es.getD i []) j = .sl [])) (h : PureV st w (.sl es') c) : PureV st w (.sl es) c := by
  cases h with
  | slE a cap hcap =>
    have : es = [] := List.eq_nil_of_length_eq_zero (by simpa using hl.symm)
    subst this
    exact .slE a cap hcap
  | slC _ g off cap sz f h1 h2 h3 h4 h5 h6 h7 h8 =>
    have hes : ∀ x ∈ es, x.length = sz := fun x hx => by
      obtain ⟨i, hi, rfl⟩ := List.getElem_of_mem hx
      have e1 := hz i hi
      have e2 : es.getD i [] = es[i] := by simp [List.getD_eq_getElem?_getD, hi]
      have e3 : es'.getD i [] = es'[i]'(by omega) := by simp [List.getD_eq_getElem?_getD, show i < es'.length by omega]
      rw [e2, e3] at e1
      rw [e1]
      exact h5 _ (List.getElem_mem _)
    rw [hl]
    refine .slC es g off cap sz f (by rw [← hl]; exact h1) h2 h3 (fun e => h4 (List.eq_nil_of_length_eq_zero (by rw [hl, e]; rfl))) hes h6 (fun i j hi hj => h7 i j (by rw [hl]; exact hi) hj) fun i j hi hj => ?_
    have hjl : j < (es.getD i []).length := by
      have e2 : es.getD i [] = es[i] := by simp [List.getD_eq_getElem?_getD, hi]
      rw [e2, hes _ (List.getElem_mem _)]
      exact hj
    have h9 := h8 i j (by rw [hl]; exact hi) hj
    rcases hc i j hi hjl with k | ⟨k1, k2⟩
    · rw [k]; exact h9
    · rw [k1] at h9
      rw [k2]
      generalize f i j = u at h9 ⊢
      cases h9 with
      | nils a => exact .slE a 0 (Nat.zero_le _)
theorem pure_nilc2 {P : Program} {f : Nat} {a b : AV} {es es' : List (List AV)} {r : List AV} {res : AV} (h : Go.Ab.Pure P f (a :: b :: .sl es :: r) res) (hl : es'.length = es.length) (hz : ∀ i : Nat, i < es.length → (es.getD i []).length = (es'.getD i []).length)
    (hc : ∀ i j : Nat, i < es.length → j < (es.getD i []).length → av (es.getD i []) j = av (es'.getD i []) j ∨ (av (es'.getD i []) j = .nils ∧ av (es.getD i []) j = .sl [])) : Go.Ab.Pure P f (a :: b :: .sl es' :: r) res := by
  unfold Go.Ab.Pure at h ⊢
  refine ⟨h.1, fun ok w cs hv => h.2 ok w cs ⟨hv.1, fun j hj => ?_⟩⟩
  have := hv.2 j hj
  match j, hj with
  | 0, _ => exact this
  | 1, _ => exact this
  | 2, _ => exact pureV_nilc hl hz hc this
  | j + 3, _ => exact this
theorem exFrees : freesE 100 50 [⟨20, 0, 40, 30⟩] 0 = [⟨0, 0, 20, 50⟩, ⟨40, 0, 100, 50⟩, ⟨0, 30, 100, 50⟩] := by kernel_rfl
theorem exLargest : largestE 100 50 [⟨20, 0, 40, 30⟩] 0 = (⟨40, 0, 100, 50⟩, true) := by kernel_rfl
def exPart : Pa := ⟨⟨⟨[80]⟩⟩, 0, 1, ⟨⟨[]⟩⟩, ⟨⟨[]⟩⟩, 0, ⟨[⟨0, 0⟩, ⟨20, 0⟩, ⟨20, 30⟩, ⟨0, 30⟩], []⟩, ⟨⟨[]⟩⟩, 0, 0, 0, 0, 0, 0, 0, 0, 0⟩
theorem exOf : ofE ⟨⟨⟨[88, 49]⟩⟩, ⟨⟨[65]⟩⟩, 9, 100, 50, ⟨⟨[72]⟩⟩⟩ 0 [⟨⟨⟨[80]⟩⟩, 20, 0, 0, false⟩] [exPart] 40 = (⟨⟨⟨[88, 49, 114]⟩⟩, ⟨⟨[65]⟩⟩, 9, 60, 50, ⟨⟨[72]⟩⟩⟩, true) := by kernel_rfl
theorem awake_ok : Pure Tryz.prog 5 [] (.v (.bool true)) := by
  have c1 : Pure Tryz.prog 11 [.v (.int .i64 100), .v (.int .i64 50), .sl [[.v (.int .i64 20), .v (.int .i64 0), .v (.int .i64 40), .v (.int .i64 30)]], .v (.int .i64 0)] (.sl [[.v (.int .i64 0), .v (.int .i64 0), .v (.int .i64 20), .v (.int .i64 50)], [.v (.int .i64 40), .v (.int .i64 0), .v (.int .i64 100), .v (.int .i64 50)], [.v (.int .i64 0), .v (.int .i64 30), .v (.int .i64 100), .v (.int .i64 50)]]) := by
    have h := frees_ok 100 50 [⟨20, 0, 40, 30⟩] 0; rw [exFrees] at h; exact h
  have c2 : Pure Tryz.prog 13 [.v (.int .i64 100), .v (.int .i64 50), .sl [[.v (.int .i64 20), .v (.int .i64 0), .v (.int .i64 40), .v (.int .i64 30)]], .v (.int .i64 0)] (.tup [.agg [.v (.int .i64 40), .v (.int .i64 0), .v (.int .i64 100), .v (.int .i64 50)], .v (.bool true)]) := by
    have h := largest_ok 100 50 [⟨20, 0, 40, 30⟩] 0; rw [exLargest] at h; exact h
  have c3 : Pure Tryz.prog 8 [.agg [.v (.string ⟨⟨[88, 49]⟩⟩), .v (.string ⟨⟨[65]⟩⟩), .v (.int .i64 9), .v (.int .i64 100), .v (.int .i64 50), .v (.string ⟨⟨[72]⟩⟩)], .agg [.v (.string ⟨⟨[88, 49]⟩⟩), .v (.int .i64 0), .sl [[.v (.string ⟨⟨[80]⟩⟩), .v (.int .i64 20), .v (.int .i64 0), .v (.int .i64 0), .v (.bool false)]]], .sl [[.v (.string ⟨⟨[80]⟩⟩), .v (.int .i64 0), .v (.int .i64 1), .v (.string ⟨⟨[]⟩⟩), .v (.string ⟨⟨[]⟩⟩), .v (.int .i64 0), .sl [[.v (.int .i64 0), .v (.int .i64 0)], [.v (.int .i64 20), .v (.int .i64 0)], [.v (.int .i64 20), .v (.int .i64 30)], [.v (.int .i64 0), .v (.int .i64 30)]], .nils, .v (.string ⟨⟨[]⟩⟩), .v (.int .i64 0), .v (.int .i64 0), .v (.int .i64 0), .v (.int .i64 0), .v (.int .i64 0), .v (.int .i64 0), .v (.int .i64 0), .v (.int .i64 0), .v (.int .i64 0)]], .v (.int .i64 40)] (.tup [.agg [.v (.string ⟨⟨[88, 49, 114]⟩⟩), .v (.string ⟨⟨[65]⟩⟩), .v (.int .i64 9), .v (.int .i64 60), .v (.int .i64 50), .v (.string ⟨⟨[72]⟩⟩)], .v (.bool true)]) := by
    have hf : FewP [⟨⟨⟨[80]⟩⟩, 20, 0, 0, false⟩] [exPart] := ⟨by simp, by simp, (fun ⟨t, ht, hb⟩ => by
      rw [List.mem_singleton] at ht
      rw [ht] at hb
      cases hb), fun p hp => by
      rw [List.mem_singleton] at hp; rw [hp]; exact ⟨by simp [exPart], by simp [exPart], fun c hc => by simp [exPart] at hc⟩⟩
    have h := of_ok ⟨⟨⟨[88, 49]⟩⟩, ⟨⟨[65]⟩⟩, 9, 100, 50, ⟨⟨[72]⟩⟩⟩ (⟨⟨[88, 49]⟩⟩ : ByteArray) 0 [⟨⟨⟨[80]⟩⟩, 20, 0, 0, false⟩] [exPart] 40 (by show 2 < _; decide) hf
    rw [exOf] at h
    refine pure_nilc2 (es := pas [exPart]) h rfl (fun i hi => ?_) (fun i j hi hj => ?_)
    · match i, hi with
      | 0, _ => rfl
    · match i, hi with
      | 0, _ => match j, hj with
        | 0, _ => exact .inl rfl
        | 1, _ => exact .inl rfl
        | 2, _ => exact .inl rfl
        | 3, _ => exact .inl rfl
        | 4, _ => exact .inl rfl
        | 5, _ => exact .inl rfl
        | 6, _ => exact .inl rfl
        | 7, _ => exact .inr ⟨rfl, rfl⟩
        | 8, _ => exact .inl rfl
        | 9, _ => exact .inl rfl
        | 10, _ => exact .inl rfl
        | 11, _ => exact .inl rfl
        | 12, _ => exact .inl rfl
        | 13, _ => exact .inl rfl
        | 14, _ => exact .inl rfl
        | 15, _ => exact .inl rfl
        | 16, _ => exact .inl rfl
        | 17, _ => exact .inl rfl
        | q + 18, hq => exact absurd hq (fun h => by
          have : q + 18 < 18 := h
          omega)
  have c4 : Pure Tryz.prog 10 [.sl [[.v (.int .i64 0), .v (.int .i64 0), .v (.int .i64 20), .v (.int .i64 50)], [.v (.int .i64 40), .v (.int .i64 0), .v (.int .i64 100), .v (.int .i64 50)], [.v (.int .i64 0), .v (.int .i64 30), .v (.int .i64 100), .v (.int .i64 50)]], .sl [[.v (.int .i64 0), .v (.int .i64 0), .v (.int .i64 20), .v (.int .i64 50)], [.v (.int .i64 40), .v (.int .i64 0), .v (.int .i64 100), .v (.int .i64 50)], [.v (.int .i64 0), .v (.int .i64 30), .v (.int .i64 100), .v (.int .i64 50)]]] (.v (.bool true)) := same_ok [⟨0, 0, 20, 50⟩, ⟨40, 0, 100, 50⟩, ⟨0, 30, 100, 50⟩] (by decide)
  have q0 : Pure Tryz.prog 12 [.v (.int .i64 20), .v (.int .i64 0), .v (.int .i64 40), .v (.int .i64 30)] (.agg [.v (.int .i64 20), .v (.int .i64 0), .v (.int .i64 40), .v (.int .i64 30)]) := rect_ok 20 0 40 30
  have q1 : Pure Tryz.prog 12 [.v (.int .i64 0), .v (.int .i64 0), .v (.int .i64 20), .v (.int .i64 50)] (.agg [.v (.int .i64 0), .v (.int .i64 0), .v (.int .i64 20), .v (.int .i64 50)]) := rect_ok 0 0 20 50
  have q2 : Pure Tryz.prog 12 [.v (.int .i64 40), .v (.int .i64 0), .v (.int .i64 100), .v (.int .i64 50)] (.agg [.v (.int .i64 40), .v (.int .i64 0), .v (.int .i64 100), .v (.int .i64 50)]) := rect_ok 40 0 100 50
  have q3 : Pure Tryz.prog 12 [.v (.int .i64 0), .v (.int .i64 30), .v (.int .i64 100), .v (.int .i64 50)] (.agg [.v (.int .i64 0), .v (.int .i64 30), .v (.int .i64 100), .v (.int .i64 50)]) := rect_ok 0 30 100 50
  refine fn_pure Tryz.F5 (Nat.le_of_ble_eq_true rfl) ?_; unfold Tryz.ac5
  repeat' (first
 | (apply Awp.sreg; (case hn => (simp only [List.length_cons, List.length_nil, Nat.reduceAdd] <;> rfl)))
 | (apply Awp.sdraw; (case hn => (simp only [List.length_cons, List.length_nil, Nat.reduceAdd] <;> rfl)))
 | (refine st_nil ?_)
 | (apply st_full (d := some 8); (case hr => (simp only [go_sem, *] <;> rfl)); (case hn => (simp; done)); (case hp => (first | (simp; done))))
 | (apply st_full (d := some 12); (case hr => (simp only [go_sem, *] <;> rfl)); (case hn => (simp; done)); (case hp => (first | (simp; done))))
 | (apply st_full (d := some 20); (case hr => (simp only [go_sem, *] <;> rfl)); (case hn => (simp; done)); (case hp => (first | (simp; done))))
 | (apply st_full (d := some 27); (case hr => (simp only [go_sem, *] <;> rfl)); (case hn => (simp; done)); (case hp => (first | (simp; done))))
 | (apply st_full (d := some 30); (case hr => (simp only [go_sem, *] <;> rfl)); (case hn => (simp; done)); (case hp => (first | (simp; done))))
 | (apply st_a; (case hc => rfl); (case he => (simp only [go_sem, *] <;> rfl)); (case hu => (simp only [updL_nil, updL_cons] <;> rfl)); (case hp => first | trivial))
 | (apply st_c; (case hc => (simp only [go_sem, *] <;> rfl)); (case hl => (simp only [go_sem, *] <;> rfl)); (case hn => (simp only [go_sem, *] <;> rfl)); (case hp => first | exact q0 | (have hXz := q0; simp only [go_sem, *] at hXz; exact hXz)))
 | (apply st_c; (case hc => (simp only [go_sem, *] <;> rfl)); (case hl => (simp only [go_sem, *] <;> rfl)); (case hn => (simp only [go_sem, *] <;> rfl)); (case hp => first | exact c1 | (have hXz := c1; simp only [go_sem, *] at hXz; exact hXz)))
 | (apply st_c; (case hc => (simp only [go_sem, *] <;> rfl)); (case hl => (simp only [go_sem, *] <;> rfl)); (case hn => (simp only [go_sem, *] <;> rfl)); (case hp => first | exact c2 | (have hXz := c2; simp only [go_sem, *] at hXz; exact hXz)))
 | (apply st_c; (case hc => (simp only [go_sem, *] <;> rfl)); (case hl => (simp only [go_sem, *] <;> rfl)); (case hn => (simp only [go_sem, *] <;> rfl)); (case hp => first | exact c3 | (have hXz := c3; simp only [go_sem, *] at hXz; exact hXz)))
 | (refine Awp.ret ?_; try simp only [go_sem, *])
 | (apply sl_a; (case hc => rfl); (case he => (simp only [go_sem, *] <;> rfl)); (case hu => (simp only [updL_nil, updL_cons] <;> rfl)); (case hl => (simp only [List.map_cons, List.map_nil] <;> rfl)); (case hp => first | trivial | (simp; done)))
 | (apply sl_ga; (case hb => rfl); (case hv => (simp only [go_sem, *] <;> rfl)); (case he => (simp only [go_sem, *] <;> rfl)); (case hu => (simp only [updL_nil, updL_cons] <;> rfl)); (case hl => (simp only [List.map_cons, List.map_nil] <;> rfl)); (case hp => first | trivial))
 | (apply sl_c; (case hc => (simp only [go_sem, *] <;> rfl)); (case hl => (simp only [go_sem, *] <;> rfl)); (case hn => (simp only [go_sem, *] <;> rfl)); (case hp => first | exact q1 | (have hXz := q1; simp only [go_sem, *] at hXz; exact hXz)); (case hd => first | exact .inl rfl | exact .inr (.v _) | exact .inr .any | exact .inr .nils | (refine .inr ?_; (repeat' (first | exact Dry.v _ | exact Dry.any | exact Dry.nils | exact Dry.slE | refine Dry.agg ?_ | refine Dry.tup ?_ | (refine List.forall_mem_cons.2 (And.intro ?_ ?_)) | (intro cQ hQ; cases hQ; done))); done)); (case hm => first | decide | (simp; done)))
 | (apply sl_c; (case hc => (simp only [go_sem, *] <;> rfl)); (case hl => (simp only [go_sem, *] <;> rfl)); (case hn => (simp only [go_sem, *] <;> rfl)); (case hp => first | exact q2 | (have hXz := q2; simp only [go_sem, *] at hXz; exact hXz)); (case hd => first | exact .inl rfl | exact .inr (.v _) | exact .inr .any | exact .inr .nils | (refine .inr ?_; (repeat' (first | exact Dry.v _ | exact Dry.any | exact Dry.nils | exact Dry.slE | refine Dry.agg ?_ | refine Dry.tup ?_ | (refine List.forall_mem_cons.2 (And.intro ?_ ?_)) | (intro cQ hQ; cases hQ; done))); done)); (case hm => first | decide | (simp; done)))
 | (apply sl_cg; (case hop => rfl); (case hv => (simp only [go_sem, *] <;> rfl)); (case hc => (simp only [go_sem, *] <;> rfl)); (case hl => (simp only [go_sem, *] <;> rfl)); (case hn => (simp only [go_sem, *] <;> rfl)); (case hp => first | exact q2 | (have hXz := q2; simp only [go_sem, *] at hXz; exact hXz)); (case hd => first | exact .inl rfl | exact .inr (.v _) | exact .inr .any | exact .inr .nils | (refine .inr ?_; (repeat' (first | exact Dry.v _ | exact Dry.any | exact Dry.nils | exact Dry.slE | refine Dry.agg ?_ | refine Dry.tup ?_ | (refine List.forall_mem_cons.2 (And.intro ?_ ?_)) | (intro cQ hQ; cases hQ; done))); done)); (case hm => first | decide | (simp; done)))
 | (apply sl_c; (case hc => (simp only [go_sem, *] <;> rfl)); (case hl => (simp only [go_sem, *] <;> rfl)); (case hn => (simp only [go_sem, *] <;> rfl)); (case hp => first | exact q3 | (have hXz := q3; simp only [go_sem, *] at hXz; exact hXz)); (case hd => first | exact .inl rfl | exact .inr (.v _) | exact .inr .any | exact .inr .nils | (refine .inr ?_; (repeat' (first | exact Dry.v _ | exact Dry.any | exact Dry.nils | exact Dry.slE | refine Dry.agg ?_ | refine Dry.tup ?_ | (refine List.forall_mem_cons.2 (And.intro ?_ ?_)) | (intro cQ hQ; cases hQ; done))); done)); (case hm => first | decide | (simp; done)))
 | (apply sl_c; (case hc => (simp only [go_sem, *] <;> rfl)); (case hl => (simp only [go_sem, *] <;> rfl)); (case hn => (simp only [go_sem, *] <;> rfl)); (case hp => first | exact c4 | (have hXz := c4; simp only [go_sem, *] at hXz; exact hXz)); (case hd => first | exact .inl rfl | exact .inr (.v _) | exact .inr .any | exact .inr .nils | (refine .inr ?_; (repeat' (first | exact Dry.v _ | exact Dry.any | exact Dry.nils | exact Dry.slE | refine Dry.agg ?_ | refine Dry.tup ?_ | (refine List.forall_mem_cons.2 (And.intro ?_ ?_)) | (intro cQ hQ; cases hQ; done))); done)); (case hm => first | decide | (simp; done)))
 | (refine sl_nil (And.intro (by first | exact drawOk_of (by decide +kernel) | (simp only [List.map_cons, List.map_nil]; exact drawOk_of (by decide +kernel)) | decide) ?_)))
  all_goals repeat' (first | exact Lower.bool (by first | rfl | (simp only [true_and, Bool.true_and, Bool.false_and, Bool.and_true, Bool.and_false, Bool.true_or, Bool.false_or, reduceIte, Bool.false_eq_true, *]; done) | (simp only [true_and, reduceIte, Bool.false_eq_true, *] <;> rfl) | (simp [true_and]; done) | (simp_all [true_and]; done) | omega))
end Go.Proofs
end
section
set_option linter.unusedVariables false
set_option linter.unusedSimpArgs false
namespace Go.Proofs
open Go Go.Ab
set_option maxHeartbeats 8000000
set_option maxRecDepth 100000
attribute [local irreducible] Awp aops aopsL Go.Ab.Pure PureOwn
theorem shapes_len (ts : List Spt) (ps : List Pa) : (shapesE ts ps).1.length ≤ ts.length := by
  unfold shapesE
  split
  · simp
  · simp
theorem taken_len {ts : List Spt} {ps : List Pa} (h6 : ts.length ≤ 6) : (takenE ts ps).1.length ≤ 6 := by
  unfold takenE
  split
  · simp
  · rw [List.length_map]
    exact Nat.le_trans (shapes_len ts ps) h6
theorem rof_ok (sh : She) (nm : ByteArray) (gap : Int) (ts : List Spt) (ps : List Pa) (least : Int) (hid : sh.id.size < 9000000000000000000) (h6 : ts.length ≤ 6) (h : FewP ts ps) : Pure Tryz.prog 9 [sh.av, nestAv nm gap ts, .sl (pas ps), .v (.int .i64 least)] (.tup [(ofE sh gap ts ps least).1.av, .v (.bool (ofE sh gap ts ps least).2)]) := by
  have hid2 : (((sh.id.size + (⟨⟨[114]⟩⟩ : ByteArray).size : Nat) : Int)) ≤ 9223372036854775807 := by show ((sh.id.size + 1 : Nat) : Int) ≤ _; omega
  clear hid
  have k1 := rtaken_ok nm gap ts ps h
  have htl := taken_len (ps := ps) h6
  have k2 := rlargest_ok sh.len sh.wid (takenE ts ps).1 gap (fun _ => htl) (rfrees_ok sh.len sh.wid (takenE ts ps).1 gap (fun _ => htl))
  have hsm := largest_small sh.len sh.wid (takenE ts ps).1 gap
  unfold ofE lowL
  clear h htl h6
  generalize (takenE ts ps).1 = T at *
  generalize (takenE ts ps).2 = e at *
  cases he : (e != 0)
  case true =>
    rw [if_pos rfl]
    unfold zeroShe
    clear hsm k2
    refine fn_pure Tryz.F9 (Nat.le_of_ble_eq_true rfl) ?_; unfold Tryz.ac9
    repeat' (first
 | (apply Awp.sreg; (case hn => (simp only [List.length_cons, List.length_nil, Nat.reduceAdd] <;> rfl)))
 | (refine st_nil ?_)
 | (apply st_a; (case hc => rfl); (case he => (simp only [go_sem, *] <;> rfl)); (case hu => (simp only [updL_nil, updL_cons] <;> rfl)); (case hp => first | assumption | trivial))
 | (apply st_c; (case hc => (simp only [go_sem, *] <;> rfl)); (case hl => (simp only [go_sem, *] <;> rfl)); (case hn => (simp only [go_sem, *] <;> rfl)); (case hp => first | exact k1 | (have hXz := k1; simp only [go_sem, *] at hXz; exact hXz)))
 | (refine Awp.ret ?_; try simp only [go_sem, *])
 | (apply Awp.cond; (case hc => (simp only [go_sem, *] <;> rfl)); all_goals (intro hg; (try simp only [Bool.not_true, Bool.not_false, reduceCtorEq] at hg)))
 | refine Awp.seq ?_)
    all_goals repeat' (first | exact Lower.bool (by first | rfl | (simp only [true_and, Bool.true_and, Bool.false_and, Bool.and_true, Bool.and_false, Bool.true_or, Bool.false_or, reduceIte, Bool.false_eq_true, *]; done) | (simp only [true_and, reduceIte, Bool.false_eq_true, *] <;> rfl) | (simp [true_and]; done) | (simp_all [true_and]; done) | omega) | exact Lower.int (by first | rfl | (simp only [true_and, Bool.true_and, Bool.false_and, Bool.and_true, Bool.and_false, Bool.true_or, Bool.false_or, reduceIte, Bool.false_eq_true, *]; done) | (simp only [true_and, reduceIte, Bool.false_eq_true, *] <;> rfl) | (simp [true_and]; done) | (simp_all [true_and]; done) | omega) | exact Lower.str (by first | rfl | (simp only [true_and, Bool.true_and, Bool.false_and, Bool.and_true, Bool.and_false, Bool.true_or, Bool.false_or, reduceIte, Bool.false_eq_true, *]; done) | (simp only [true_and, reduceIte, Bool.false_eq_true, *] <;> rfl) | (simp [true_and]; done) | (simp_all [true_and]; done) | omega) | refine Lower.aggF ?_ | refine Lower.tupF ?_ | refine All2.cons ?_ ?_ | exact All2.nil)
  rw [if_neg (by decide)]
  generalize largestE sh.len sh.wid T gap = L at *
  obtain ⟨r, ok⟩ := L
  simp only [] at k2 hsm ⊢
  have w1 : IntKind.i64.wrap (r.c - r.a) = r.c - r.a := wrap_i64 (by have := hsm.a; have := hsm.c; omega) (by have := hsm.a; have := hsm.c; omega)
  have w2 : IntKind.i64.wrap (r.d - r.b) = r.d - r.b := wrap_i64 (by have := hsm.b; have := hsm.d; omega) (by have := hsm.b; have := hsm.d; omega)
  have e1 := mnI (r.c - r.a) (r.d - r.b)
  have e2 := mxI (r.c - r.a) (r.d - r.b)
  clear hsm
  cases hok : ok
  case false =>
    rw [hok] at k2
    rw [if_neg (by decide)]
    unfold zeroShe
    refine fn_pure Tryz.F9 (Nat.le_of_ble_eq_true rfl) ?_; unfold Tryz.ac9
    repeat' (first
 | (apply Awp.sreg; (case hn => (simp only [List.length_cons, List.length_nil, Nat.reduceAdd] <;> rfl)))
 | (apply Awp.sdraw; (case hn => (simp only [List.length_cons, List.length_nil, Nat.reduceAdd] <;> rfl)))
 | (refine st_nil ?_)
 | (apply st_a; (case hc => rfl); (case he => (simp only [go_sem, *] <;> rfl)); (case hu => (simp only [updL_nil, updL_cons] <;> rfl)); (case hp => first | assumption | trivial))
 | (apply st_m; (case hc => rfl); (case hg => (simp only [go_sem, *] <;> rfl)); (case he => (intro hQz; (try simp only [wantB_t, wantB_f, Bool.and_eq_true, Bool.not_eq_true', Bool.not_true, Bool.not_false, and_true, true_and] at hQz); simp only [go_sem, *] <;> rfl)); (case hp => (intro hQz; (try simp only [wantB_t, wantB_f, Bool.and_eq_true, Bool.not_eq_true', Bool.or_eq_false_iff, decide_eq_true_eq, decide_eq_false_iff_not, beq_iff_eq, beq_eq_false_iff_ne, bne_iff_ne, bne_eq_false_iff_eq, Int.not_lt, Int.not_le, Int.ofNat_lt, Int.ofNat_le] at hQz); first | assumption)))
 | (apply st_c; (case hc => (simp only [go_sem, *] <;> rfl)); (case hl => (simp only [go_sem, *] <;> rfl)); (case hn => (simp only [go_sem, *] <;> rfl)); (case hp => first | exact k1 | (have hXz := k1; simp only [go_sem, *] at hXz; exact hXz)))
 | (apply st_c; (case hc => (simp only [go_sem, *] <;> rfl)); (case hl => (simp only [go_sem, *] <;> rfl)); (case hn => (simp only [go_sem, *] <;> rfl)); (case hp => first | exact k2 | (have hXz := k2; simp only [go_sem, *] at hXz; exact hXz)))
 | (refine Awp.ret ?_; try simp only [go_sem, *])
 | (refine Awp.skip ?_; try simp only [go_sem, *])
 | (apply Awp.cond; (case hc => (simp only [go_sem, *] <;> rfl)); all_goals (intro hg; (try simp only [Bool.not_true, Bool.not_false, reduceCtorEq] at hg)))
 | refine Awp.seq ?_
 | (apply sl_a; (case hc => rfl); (case he => (simp only [go_sem, *] <;> rfl)); (case hu => (simp only [updL_nil, updL_cons] <;> rfl)); (case hl => (simp only [List.map_cons, List.map_nil] <;> rfl)); (case hp => first | assumption))
 | (refine sl_nil (And.intro (by first | exact drawOk_of (by decide +kernel) | (simp only [List.map_cons, List.map_nil]; exact drawOk_of (by decide +kernel)) | decide) ?_)))
    all_goals repeat' (first | exact Lower.bool (by first | rfl | (simp only [true_and, Bool.true_and, Bool.false_and, Bool.and_true, Bool.and_false, Bool.true_or, Bool.false_or, reduceIte, Bool.false_eq_true, *]; done) | (simp only [true_and, reduceIte, Bool.false_eq_true, *] <;> rfl) | (simp [true_and]; done) | (simp_all [true_and]; done) | omega) | exact Lower.int (by first | rfl | (simp only [true_and, Bool.true_and, Bool.false_and, Bool.and_true, Bool.and_false, Bool.true_or, Bool.false_or, reduceIte, Bool.false_eq_true, *]; done) | (simp only [true_and, reduceIte, Bool.false_eq_true, *] <;> rfl) | (simp [true_and]; done) | (simp_all [true_and]; done) | omega) | exact Lower.str (by first | rfl | (simp only [true_and, Bool.true_and, Bool.false_and, Bool.and_true, Bool.and_false, Bool.true_or, Bool.false_or, reduceIte, Bool.false_eq_true, *]; done) | (simp only [true_and, reduceIte, Bool.false_eq_true, *] <;> rfl) | (simp [true_and]; done) | (simp_all [true_and]; done) | omega) | refine Lower.aggF ?_ | refine Lower.tupF ?_ | refine All2.cons ?_ ?_ | exact All2.nil)
  rw [hok] at k2
  rw [if_pos rfl]
  have hc : (decide (r.c - r.a < least) = true ∧ decide (min (r.c - r.a) (r.d - r.b) < least) = true) ∨ (decide (r.c - r.a < least) = false ∧ decide (r.d - r.b < least) = true ∧ decide (min (r.c - r.a) (r.d - r.b) < least) = true) ∨ (decide (r.c - r.a < least) = false ∧ decide (r.d - r.b < least) = false ∧ decide (min (r.c - r.a) (r.d - r.b) < least) = false) := by
    simp only [decide_eq_true_eq, decide_eq_false_iff_not]
    omega
  rcases hc with ⟨b1, hlt⟩ | ⟨b1, b2, hlt⟩ | ⟨b1, b2, hlt⟩
  · rw [hlt, if_pos rfl]
    unfold zeroShe
    clear hlt
    refine fn_pure Tryz.F9 (Nat.le_of_ble_eq_true rfl) ?_; unfold Tryz.ac9
    repeat' (first
 | (apply Awp.sreg; (case hn => (simp only [List.length_cons, List.length_nil, Nat.reduceAdd] <;> rfl)))
 | (apply Awp.sdraw; (case hn => (simp only [List.length_cons, List.length_nil, Nat.reduceAdd] <;> rfl)))
 | (refine st_nil ?_)
 | (apply st_a; (case hc => rfl); (case he => (simp only [go_sem, *] <;> rfl)); (case hu => (simp only [updL_nil, updL_cons] <;> rfl)); (case hp => first | assumption | trivial))
 | (apply st_m; (case hc => rfl); (case hg => (simp only [go_sem, *] <;> rfl)); (case he => (intro hQz; (try simp only [wantB_t, wantB_f, Bool.and_eq_true, Bool.not_eq_true', Bool.not_true, Bool.not_false, and_true, true_and] at hQz); simp only [go_sem, *] <;> rfl)); (case hp => (intro hQz; (try simp only [wantB_t, wantB_f, Bool.and_eq_true, Bool.not_eq_true', Bool.or_eq_false_iff, decide_eq_true_eq, decide_eq_false_iff_not, beq_iff_eq, beq_eq_false_iff_ne, bne_iff_ne, bne_eq_false_iff_eq, Int.not_lt, Int.not_le, Int.ofNat_lt, Int.ofNat_le] at hQz); first | assumption)))
 | (apply st_c; (case hc => (simp only [go_sem, *] <;> rfl)); (case hl => (simp only [go_sem, *] <;> rfl)); (case hn => (simp only [go_sem, *] <;> rfl)); (case hp => first | exact k1 | (have hXz := k1; simp only [go_sem, *] at hXz; exact hXz)))
 | (apply st_c; (case hc => (simp only [go_sem, *] <;> rfl)); (case hl => (simp only [go_sem, *] <;> rfl)); (case hn => (simp only [go_sem, *] <;> rfl)); (case hp => first | exact k2 | (have hXz := k2; simp only [go_sem, *] at hXz; exact hXz)))
 | (refine Awp.ret ?_; try simp only [go_sem, *])
 | (refine Awp.skip ?_; try simp only [go_sem, *])
 | (apply Awp.cond; (case hc => (simp only [go_sem, *] <;> rfl)); all_goals (intro hg; (try simp only [Bool.not_true, Bool.not_false, reduceCtorEq] at hg)))
 | refine Awp.seq ?_
 | (apply sl_a; (case hc => rfl); (case he => (simp only [go_sem, *] <;> rfl)); (case hu => (simp only [updL_nil, updL_cons] <;> rfl)); (case hl => (simp only [List.map_cons, List.map_nil] <;> rfl)); (case hp => first | assumption))
 | (refine sl_nil (And.intro (by first | exact drawOk_of (by decide +kernel) | (simp only [List.map_cons, List.map_nil]; exact drawOk_of (by decide +kernel)) | decide) ?_)))
    all_goals repeat' (first | exact Lower.bool (by first | rfl | (simp only [true_and, Bool.true_and, Bool.false_and, Bool.and_true, Bool.and_false, Bool.true_or, Bool.false_or, reduceIte, Bool.false_eq_true, *]; done) | (simp only [true_and, reduceIte, Bool.false_eq_true, *] <;> rfl) | (simp [true_and]; done) | (simp_all [true_and]; done) | omega) | exact Lower.int (by first | rfl | (simp only [true_and, Bool.true_and, Bool.false_and, Bool.and_true, Bool.and_false, Bool.true_or, Bool.false_or, reduceIte, Bool.false_eq_true, *]; done) | (simp only [true_and, reduceIte, Bool.false_eq_true, *] <;> rfl) | (simp [true_and]; done) | (simp_all [true_and]; done) | omega) | exact Lower.str (by first | rfl | (simp only [true_and, Bool.true_and, Bool.false_and, Bool.and_true, Bool.and_false, Bool.true_or, Bool.false_or, reduceIte, Bool.false_eq_true, *]; done) | (simp only [true_and, reduceIte, Bool.false_eq_true, *] <;> rfl) | (simp [true_and]; done) | (simp_all [true_and]; done) | omega) | refine Lower.aggF ?_ | refine Lower.tupF ?_ | refine All2.cons ?_ ?_ | exact All2.nil)
  · rw [hlt, if_pos rfl]
    unfold zeroShe
    clear hlt
    refine fn_pure Tryz.F9 (Nat.le_of_ble_eq_true rfl) ?_; unfold Tryz.ac9
    repeat' (first
 | (apply Awp.sreg; (case hn => (simp only [List.length_cons, List.length_nil, Nat.reduceAdd] <;> rfl)))
 | (apply Awp.sdraw; (case hn => (simp only [List.length_cons, List.length_nil, Nat.reduceAdd] <;> rfl)))
 | (refine st_nil ?_)
 | (apply st_a; (case hc => rfl); (case he => (simp only [go_sem, *] <;> rfl)); (case hu => (simp only [updL_nil, updL_cons] <;> rfl)); (case hp => first | assumption | trivial))
 | (apply st_m; (case hc => rfl); (case hg => (simp only [go_sem, *] <;> rfl)); (case he => (intro hQz; (try simp only [wantB_t, wantB_f, Bool.and_eq_true, Bool.not_eq_true', Bool.not_true, Bool.not_false, and_true, true_and] at hQz); simp only [go_sem, *] <;> rfl)); (case hp => (intro hQz; (try simp only [wantB_t, wantB_f, Bool.and_eq_true, Bool.not_eq_true', Bool.or_eq_false_iff, decide_eq_true_eq, decide_eq_false_iff_not, beq_iff_eq, beq_eq_false_iff_ne, bne_iff_ne, bne_eq_false_iff_eq, Int.not_lt, Int.not_le, Int.ofNat_lt, Int.ofNat_le] at hQz); first | assumption)))
 | (apply st_c; (case hc => (simp only [go_sem, *] <;> rfl)); (case hl => (simp only [go_sem, *] <;> rfl)); (case hn => (simp only [go_sem, *] <;> rfl)); (case hp => first | exact k1 | (have hXz := k1; simp only [go_sem, *] at hXz; exact hXz)))
 | (apply st_c; (case hc => (simp only [go_sem, *] <;> rfl)); (case hl => (simp only [go_sem, *] <;> rfl)); (case hn => (simp only [go_sem, *] <;> rfl)); (case hp => first | exact k2 | (have hXz := k2; simp only [go_sem, *] at hXz; exact hXz)))
 | (refine Awp.ret ?_; try simp only [go_sem, *])
 | (refine Awp.skip ?_; try simp only [go_sem, *])
 | (apply Awp.cond; (case hc => (simp only [go_sem, *] <;> rfl)); all_goals (intro hg; (try simp only [Bool.not_true, Bool.not_false, reduceCtorEq] at hg)))
 | refine Awp.seq ?_
 | (apply sl_a; (case hc => rfl); (case he => (simp only [go_sem, *] <;> rfl)); (case hu => (simp only [updL_nil, updL_cons] <;> rfl)); (case hl => (simp only [List.map_cons, List.map_nil] <;> rfl)); (case hp => first | assumption))
 | (refine sl_nil (And.intro (by first | exact drawOk_of (by decide +kernel) | (simp only [List.map_cons, List.map_nil]; exact drawOk_of (by decide +kernel)) | decide) ?_)))
    all_goals repeat' (first | exact Lower.bool (by first | rfl | (simp only [true_and, Bool.true_and, Bool.false_and, Bool.and_true, Bool.and_false, Bool.true_or, Bool.false_or, reduceIte, Bool.false_eq_true, *]; done) | (simp only [true_and, reduceIte, Bool.false_eq_true, *] <;> rfl) | (simp [true_and]; done) | (simp_all [true_and]; done) | omega) | exact Lower.int (by first | rfl | (simp only [true_and, Bool.true_and, Bool.false_and, Bool.and_true, Bool.and_false, Bool.true_or, Bool.false_or, reduceIte, Bool.false_eq_true, *]; done) | (simp only [true_and, reduceIte, Bool.false_eq_true, *] <;> rfl) | (simp [true_and]; done) | (simp_all [true_and]; done) | omega) | exact Lower.str (by first | rfl | (simp only [true_and, Bool.true_and, Bool.false_and, Bool.and_true, Bool.and_false, Bool.true_or, Bool.false_or, reduceIte, Bool.false_eq_true, *]; done) | (simp only [true_and, reduceIte, Bool.false_eq_true, *] <;> rfl) | (simp [true_and]; done) | (simp_all [true_and]; done) | omega) | refine Lower.aggF ?_ | refine Lower.tupF ?_ | refine All2.cons ?_ ?_ | exact All2.nil)
  · rw [hlt, if_neg (by decide)]
    clear hlt
    refine fn_pure Tryz.F9 (Nat.le_of_ble_eq_true rfl) ?_; unfold Tryz.ac9
    repeat' (first
 | (apply Awp.sreg; (case hn => (simp only [List.length_cons, List.length_nil, Nat.reduceAdd] <;> rfl)))
 | (apply Awp.sdraw; (case hn => (simp only [List.length_cons, List.length_nil, Nat.reduceAdd] <;> rfl)))
 | (refine st_nil ?_)
 | (apply st_a; (case hc => rfl); (case he => (simp only [go_sem, *] <;> rfl)); (case hu => (simp only [updL_nil, updL_cons] <;> rfl)); (case hp => first | assumption | trivial))
 | (apply st_m; (case hc => rfl); (case hg => (simp only [go_sem, *] <;> rfl)); (case he => (intro hQz; (try simp only [wantB_t, wantB_f, Bool.and_eq_true, Bool.not_eq_true', Bool.not_true, Bool.not_false, and_true, true_and] at hQz); simp only [go_sem, *] <;> rfl)); (case hp => (intro hQz; (try simp only [wantB_t, wantB_f, Bool.and_eq_true, Bool.not_eq_true', Bool.or_eq_false_iff, decide_eq_true_eq, decide_eq_false_iff_not, beq_iff_eq, beq_eq_false_iff_ne, bne_iff_ne, bne_eq_false_iff_eq, Int.not_lt, Int.not_le, Int.ofNat_lt, Int.ofNat_le] at hQz); first | assumption)))
 | (apply st_c; (case hc => (simp only [go_sem, *] <;> rfl)); (case hl => (simp only [go_sem, *] <;> rfl)); (case hn => (simp only [go_sem, *] <;> rfl)); (case hp => first | exact k1 | (have hXz := k1; simp only [go_sem, *] at hXz; exact hXz)))
 | (apply st_c; (case hc => (simp only [go_sem, *] <;> rfl)); (case hl => (simp only [go_sem, *] <;> rfl)); (case hn => (simp only [go_sem, *] <;> rfl)); (case hp => first | exact k2 | (have hXz := k2; simp only [go_sem, *] at hXz; exact hXz)))
 | (refine Awp.ret ?_; try simp only [go_sem, *])
 | (refine Awp.skip ?_; try simp only [go_sem, *])
 | (apply Awp.cond; (case hc => (simp only [go_sem, *] <;> rfl)); all_goals (intro hg; (try simp only [Bool.not_true, Bool.not_false, reduceCtorEq] at hg)))
 | refine Awp.seq ?_
 | (apply sl_a; (case hc => rfl); (case he => (simp only [go_sem, *] <;> rfl)); (case hu => (simp only [updL_nil, updL_cons] <;> rfl)); (case hl => (simp only [List.map_cons, List.map_nil] <;> rfl)); (case hp => first | assumption))
 | (refine sl_nil (And.intro (by first | exact drawOk_of (by decide +kernel) | (simp only [List.map_cons, List.map_nil]; exact drawOk_of (by decide +kernel)) | decide) ?_)))
    all_goals repeat' (first | exact Lower.bool (by first | rfl | (simp only [true_and, Bool.true_and, Bool.false_and, Bool.and_true, Bool.and_false, Bool.true_or, Bool.false_or, reduceIte, Bool.false_eq_true, *]; done) | (simp only [true_and, reduceIte, Bool.false_eq_true, *] <;> rfl) | (simp [true_and]; done) | (simp_all [true_and]; done) | omega) | exact Lower.int (by first | rfl | (simp only [true_and, Bool.true_and, Bool.false_and, Bool.and_true, Bool.and_false, Bool.true_or, Bool.false_or, reduceIte, Bool.false_eq_true, *]; done) | (simp only [true_and, reduceIte, Bool.false_eq_true, *] <;> rfl) | (simp [true_and]; done) | (simp_all [true_and]; done) | omega) | exact Lower.str (by first | rfl | (simp only [true_and, Bool.true_and, Bool.false_and, Bool.and_true, Bool.and_false, Bool.true_or, Bool.false_or, reduceIte, Bool.false_eq_true, *]; done) | (simp only [true_and, reduceIte, Bool.false_eq_true, *] <;> rfl) | (simp [true_and]; done) | (simp_all [true_and]; done) | omega) | refine Lower.aggF ?_ | refine Lower.tupF ?_ | refine All2.cons ?_ ?_ | exact All2.nil)
def heavy (c : List Pt) : Bool := decide ((40 : Int) < c.length)
def badP (p : Pa) : Bool := (decide ((40 : Int) < p.sh.out.length) || decide ((8 : Int) < p.sh.holes.length)) || p.sh.holes.any heavy
def lightB (ps : List Pa) : Bool := !ps.any badP
theorem light_ok (ps : List Pa) (hl : ps.length < 1000000) : Pure Tryz.prog 4 [.sl (pas ps)] (.v (.bool (lightB ps))) := by
  unfold lightB
  refine fn_pure Tryz.F4 (Nat.le_of_ble_eq_true rfl) ?_; unfold Tryz.ac4
  repeat' (first
 | (apply Awp.sreg; (case hn => (simp only [List.length_cons, List.length_nil, Nat.reduceAdd] <;> rfl)))
 | (refine st_nil ?_)
 | (apply st_a; (case hc => rfl); (case he => (simp only [go_sem, *] <;> rfl)); (case hu => (simp only [updL_nil, updL_cons] <;> rfl)); (case hp => first | trivial))
 | refine Awp.block ?_
 | refine Awp.seq ?_)
  refine Awp.loop (fun i : Nat => i ≤ ps.length ∧ ∀ j, j < i → badP (ps.getD j zeroPa) = false) 60 (fun i => mkS [(0, .sl (pas ps)), (3, .v (.int .i64 i))] []) (fun i => ps.length - i) 0 (by simp) ?_ ?_
  · (apply Ghost.mk [] []; (case hdead => rfl); (case hinj => rfl); (case hV => (simp only [go_sem, *]) <;> (repeat' (first | exact View.int (by first | rfl | omega | (simp; done) | (rw [wrap_i64] <;> (try simp only [Int.natCast_add]) <;> omega) | (simp [*]; done))))); (case hB => (simp only [go_sem, *]) <;> (repeat' (first | skip; done))))
  · intro i ⟨hi, hj⟩
    by_cases hlt : i < ps.length
    · have hlt' : (i : Int) < ps.length := by omega
      have hat := pas_at ps i hlt
      have hz : ((ps.getD i zeroPa).cells).length = 18 := rfl
      have hin := fun h => any_in (p := badP) (d := zeroPa) hlt h
      have hnx := fun h => ltSucc (P := fun j => badP (ps.getD j zeroPa) = false) hj h
      clear hj
      generalize ps.getD i zeroPa = p at *
      cases h1 : decide ((40 : Int) < p.sh.out.length)
      · cases h2 : decide ((8 : Int) < p.sh.holes.length)
        · have h8 : p.sh.holes.length ≤ 8 := by have := of_decide_eq_false h2; omega
          have hb : badP p = p.sh.holes.any heavy := by unfold badP; rw [h1, h2]; rfl
          rw [hb] at hin hnx
          clear hb
          repeat' (first
 | (apply Awp.sreg; (case hn => (simp only [List.length_cons, List.length_nil, Nat.reduceAdd] <;> rfl)))
 | (refine st_nil ?_)
 | (apply st_a; (case hc => rfl); (case he => (simp only [go_sem, *] <;> rfl)); (case hu => (simp only [updL_nil, updL_cons] <;> rfl)); (case hp => first | assumption | trivial | omega))
 | (apply st_m; (case hc => rfl); (case hg => (simp only [go_sem, *] <;> rfl)); (case he => (intro hQz; (try simp only [wantB_t, wantB_f, Bool.and_eq_true, Bool.not_eq_true', Bool.not_true, Bool.not_false, and_true, true_and] at hQz); simp only [go_sem, *] <;> rfl)); (case hp => (intro hQz; (try simp only [wantB_t, wantB_f, Bool.and_eq_true, Bool.not_eq_true', Bool.or_eq_false_iff, decide_eq_true_eq, decide_eq_false_iff_not, beq_iff_eq, beq_eq_false_iff_ne, bne_iff_ne, bne_eq_false_iff_eq, Int.not_lt, Int.not_le, Int.ofNat_lt, Int.ofNat_le] at hQz); first | assumption | omega)))
 | (refine Awp.skip ?_; try simp only [go_sem, *])
 | refine Awp.block ?_
 | (apply Awp.cond; (case hc => (simp only [go_sem, *] <;> rfl)); all_goals (intro hg; (try simp only [Bool.not_true, Bool.not_false, reduceCtorEq] at hg)))
 | refine Awp.seq ?_)
          refine Awp.loop (fun k : Nat => k ≤ p.sh.holes.length ∧ ∀ j, j < k → heavy (p.sh.holes.getD j []) = false) 90 (fun k => mkS [(0, .sl (pas ps)), (3, .v (.int .i64 i)), (4, .v (.int .i64 k))] []) (fun k => p.sh.holes.length - k) 0 (by simp) ?_ ?_
          · clear hin hnx
            (apply Ghost.mk [] []; (case hdead => rfl); (case hinj => rfl); (case hV => (simp only [go_sem, *]) <;> (repeat' (first | exact View.int (by first | rfl | omega | (simp; done) | (rw [wrap_i64] <;> (try simp only [Int.natCast_add]) <;> omega) | (simp [*]; done))))); (case hB => (simp only [go_sem, *]) <;> (repeat' (first | skip; done))))
          · intro k ⟨hk, hkj⟩
            by_cases hlk : k < p.sh.holes.length
            · have hlk' : (k : Int) < p.sh.holes.length := by omega
              have hatk := pps_at p.sh.holes k hlk
              have hkin := fun h => any_in (p := heavy) (d := []) hlk h
              have hknx := fun h => ltSucc (P := fun j => heavy (p.sh.holes.getD j []) = false) hkj h
              clear hkj
              generalize p.sh.holes.getD k [] = c at *
              cases hv : heavy c
              · have hknx := hknx hv
                clear hin hnx hkin
                unfold heavy at hv
                repeat' (first
 | (apply Awp.sreg; (case hn => (simp only [List.length_cons, List.length_nil, Nat.reduceAdd] <;> rfl)))
 | (refine st_nil ?_)
 | (apply st_a; (case hc => rfl); (case he => (simp only [go_sem, *] <;> rfl)); (case hu => (simp only [updL_nil, updL_cons] <;> rfl)); (case hp => first | assumption | omega))
 | (apply Awp.reg; (case hn => (simp only [List.length_cons, List.length_nil, Nat.reduceAdd] <;> rfl)))
 | (refine Awp.skip ?_; try simp only [go_sem, *])
 | refine Awp.block ?_
 | (apply Awp.cond; (case hc => (simp only [go_sem, *] <;> rfl)); all_goals (intro hg; (try simp only [Bool.not_true, Bool.not_false, reduceCtorEq] at hg)))
 | refine Awp.seq ?_)
                all_goals (refine ⟨k + 1, ⟨by omega, hknx⟩, by omega, ?_⟩; clear hknx; (apply Ghost.mk [] []; (case hdead => rfl); (case hinj => rfl); (case hV => (simp only [go_sem, *]) <;> (repeat' (first | exact View.int (by first | rfl | omega | (simp; done) | (rw [wrap_i64] <;> (try simp only [Int.natCast_add]) <;> omega) | (simp [*]; done))))); (case hB => (simp only [go_sem, *]) <;> (repeat' (first | skip; done)))))
              · rw [hin (hkin hv)]
                clear hin hnx hkin hknx
                unfold heavy at hv
                repeat' (first
 | (apply Awp.sreg; (case hn => (simp only [List.length_cons, List.length_nil, Nat.reduceAdd] <;> rfl)))
 | (refine st_nil ?_)
 | (apply st_a; (case hc => rfl); (case he => (simp only [go_sem, *] <;> rfl)); (case hu => (simp only [updL_nil, updL_cons] <;> rfl)); (case hp => first | assumption | omega))
 | (refine Awp.ret ?_; try simp only [go_sem, *])
 | (refine Awp.skip ?_; try simp only [go_sem, *])
 | refine Awp.block ?_
 | (apply Awp.cond; (case hc => (simp only [go_sem, *] <;> rfl)); all_goals (intro hg; (try simp only [Bool.not_true, Bool.not_false, reduceCtorEq] at hg)))
 | refine Awp.seq ?_)
                all_goals repeat' (first | exact Lower.bool (by first | rfl | (simp only [true_and, Bool.true_and, Bool.false_and, Bool.and_true, Bool.and_false, Bool.true_or, Bool.false_or, reduceIte, Bool.false_eq_true, *]; done) | (simp only [true_and, reduceIte, Bool.false_eq_true, *] <;> rfl) | (simp [true_and]; done) | (simp_all [true_and]; done) | omega))
            · have hlk' : ¬ (k : Int) < p.sh.holes.length := by omega
              have hn := hnx (any_end (p := heavy) (d := []) (Nat.le_of_not_lt hlk) hkj)
              clear hkj hin hnx
              repeat' (first
 | (apply Awp.sreg; (case hn => (simp only [List.length_cons, List.length_nil, Nat.reduceAdd] <;> rfl)))
 | (refine st_nil ?_)
 | (apply st_a; (case hc => rfl); (case he => (simp only [go_sem, *] <;> rfl)); (case hu => (simp only [updL_nil, updL_cons] <;> rfl)); (case hp => first | assumption | omega))
 | (apply Awp.reg; (case hn => (simp only [List.length_cons, List.length_nil, Nat.reduceAdd] <;> rfl)))
 | (refine Awp.exit ?_; try simp only [go_sem, *])
 | (apply Awp.cond; (case hc => (simp only [go_sem, *] <;> rfl)); all_goals (intro hg; (try simp only [Bool.not_true, Bool.not_false, reduceCtorEq] at hg)))
 | refine Awp.seq ?_)
              all_goals (refine ⟨i + 1, ⟨by omega, hn⟩, by omega, ?_⟩; clear hn; (apply Ghost.mk [] []; (case hdead => rfl); (case hinj => rfl); (case hV => (simp only [go_sem, *]) <;> (repeat' (first | exact View.int (by first | rfl | omega | (simp; done) | (rw [wrap_i64] <;> (try simp only [Int.natCast_add]) <;> omega) | (simp [*]; done))))); (case hB => (simp only [go_sem, *]) <;> (repeat' (first | skip; done)))))
        · have hb : badP p = true := by unfold badP; rw [h1, h2]; rfl
          rw [hin hb]
          clear hb hin hnx
          repeat' (first
 | (apply Awp.sreg; (case hn => (simp only [List.length_cons, List.length_nil, Nat.reduceAdd] <;> rfl)))
 | (refine st_nil ?_)
 | (apply st_a; (case hc => rfl); (case he => (simp only [go_sem, *] <;> rfl)); (case hu => (simp only [updL_nil, updL_cons] <;> rfl)); (case hp => first | assumption | trivial | omega))
 | (apply st_m; (case hc => rfl); (case hg => (simp only [go_sem, *] <;> rfl)); (case he => (intro hQz; (try simp only [wantB_t, wantB_f, Bool.and_eq_true, Bool.not_eq_true', Bool.not_true, Bool.not_false, and_true, true_and] at hQz); simp only [go_sem, *] <;> rfl)); (case hp => (intro hQz; (try simp only [wantB_t, wantB_f, Bool.and_eq_true, Bool.not_eq_true', Bool.or_eq_false_iff, decide_eq_true_eq, decide_eq_false_iff_not, beq_iff_eq, beq_eq_false_iff_ne, bne_iff_ne, bne_eq_false_iff_eq, Int.not_lt, Int.not_le, Int.ofNat_lt, Int.ofNat_le] at hQz); first | assumption | omega)))
 | (refine Awp.ret ?_; try simp only [go_sem, *])
 | (refine Awp.skip ?_; try simp only [go_sem, *])
 | refine Awp.block ?_
 | (apply Awp.cond; (case hc => (simp only [go_sem, *] <;> rfl)); all_goals (intro hg; (try simp only [Bool.not_true, Bool.not_false, reduceCtorEq] at hg)))
 | refine Awp.seq ?_)
          all_goals repeat' (first | exact Lower.bool (by first | rfl | (simp only [true_and, Bool.true_and, Bool.false_and, Bool.and_true, Bool.and_false, Bool.true_or, Bool.false_or, reduceIte, Bool.false_eq_true, *]; done) | (simp only [true_and, reduceIte, Bool.false_eq_true, *] <;> rfl) | (simp [true_and]; done) | (simp_all [true_and]; done) | omega))
      · have hb : badP p = true := by unfold badP; rw [h1]; rfl
        rw [hin hb]
        clear hb hin hnx
        repeat' (first
 | (apply Awp.sreg; (case hn => (simp only [List.length_cons, List.length_nil, Nat.reduceAdd] <;> rfl)))
 | (refine st_nil ?_)
 | (apply st_a; (case hc => rfl); (case he => (simp only [go_sem, *] <;> rfl)); (case hu => (simp only [updL_nil, updL_cons] <;> rfl)); (case hp => first | assumption | trivial | omega))
 | (apply st_m; (case hc => rfl); (case hg => (simp only [go_sem, *] <;> rfl)); (case he => (intro hQz; (try simp only [wantB_t, wantB_f, Bool.and_eq_true, Bool.not_eq_true', Bool.not_true, Bool.not_false, and_true, true_and] at hQz); simp only [go_sem, *] <;> rfl)); (case hp => (intro hQz; (try simp only [wantB_t, wantB_f, Bool.and_eq_true, Bool.not_eq_true', Bool.or_eq_false_iff, decide_eq_true_eq, decide_eq_false_iff_not, beq_iff_eq, beq_eq_false_iff_ne, bne_iff_ne, bne_eq_false_iff_eq, Int.not_lt, Int.not_le, Int.ofNat_lt, Int.ofNat_le] at hQz); first | assumption | trivial)))
 | (refine Awp.ret ?_; try simp only [go_sem, *])
 | (refine Awp.skip ?_; try simp only [go_sem, *])
 | refine Awp.block ?_
 | (apply Awp.cond; (case hc => (simp only [go_sem, *] <;> rfl)); all_goals (intro hg; (try simp only [Bool.not_true, Bool.not_false, reduceCtorEq] at hg)))
 | refine Awp.seq ?_)
        all_goals repeat' (first | exact Lower.bool (by first | rfl | (simp only [true_and, Bool.true_and, Bool.false_and, Bool.and_true, Bool.and_false, Bool.true_or, Bool.false_or, reduceIte, Bool.false_eq_true, *]; done) | (simp only [true_and, reduceIte, Bool.false_eq_true, *] <;> rfl) | (simp [true_and]; done) | (simp_all [true_and]; done) | omega))
    · have hlt' : ¬ (i : Int) < ps.length := by omega
      have hf := any_end (p := badP) (d := zeroPa) (Nat.le_of_not_lt hlt) hj
      rw [hf]
      clear hf hj
      repeat' (first
 | (apply Awp.sreg; (case hn => (simp only [List.length_cons, List.length_nil, Nat.reduceAdd] <;> rfl)))
 | (refine st_nil ?_)
 | (apply st_a; (case hc => rfl); (case he => (simp only [go_sem, *] <;> rfl)); (case hu => (simp only [updL_nil, updL_cons] <;> rfl)); (case hp => first | assumption | trivial))
 | (refine Awp.ret ?_; try simp only [go_sem, *])
 | (refine Awp.exit ?_; try simp only [go_sem, *])
 | (apply Awp.cond; (case hc => (simp only [go_sem, *] <;> rfl)); all_goals (intro hg; (try simp only [Bool.not_true, Bool.not_false, reduceCtorEq] at hg)))
 | refine Awp.seq ?_)
      all_goals repeat' (first | exact Lower.bool (by first | rfl | (simp only [true_and, Bool.true_and, Bool.false_and, Bool.and_true, Bool.and_false, Bool.true_or, Bool.false_or, reduceIte, Bool.false_eq_true, *]; done) | (simp only [true_and, reduceIte, Bool.false_eq_true, *] <;> rfl) | (simp [true_and]; done) | (simp_all [true_and]; done) | omega))
structure Cut where
  sh : She
  nm : ByteArray
  gap : Int
  ts : List Spt
  ps : List Pa
  least : Int
def Cut.av (x : Cut) : AV := .agg [.v (.string x.sh.id), .v (.string x.sh.grade), .v (.int .i64 x.sh.thick), .v (.int .i64 x.sh.len), .v (.int .i64 x.sh.wid), .v (.string x.sh.heat), .v (.string x.nm), .v (.int .i64 x.gap), .sl (spts x.ts), .sl (pas x.ps), .v (.int .i64 x.least)]
attribute [go_sem] Cut.av
theorem few_of {ts : List Spt} {ps : List Pa} (h1 : ts.length ≤ 6) (h2 : ps.length ≤ 12) (h3 : lightB ps = true) : FewP ts ps := by
  refine ⟨by omega, by omega, fun _ => rev_ok, fun p hp => ?_⟩
  unfold lightB at h3
  rw [Bool.not_eq_true', List.any_eq_false] at h3
  have := h3 p hp
  unfold badP at this
  rw [Bool.not_eq_true, Bool.or_eq_false_iff, Bool.or_eq_false_iff, decide_eq_false_iff_not, decide_eq_false_iff_not, List.any_eq_false] at this
  refine ⟨by omega, by omega, fun c hc => ?_⟩
  have hh := this.2 c hc
  unfold heavy at hh
  rw [decide_eq_true_eq] at hh
  omega
theorem sheets_body (x : Cut) (hid : x.sh.id.size < 9000000000000000000) : Pure Tryz.prog 3 [x.av] (.v (.bool true)) := by
  have aw := awake_ok
  cases h1 : decide ((6 : Int) < x.ts.length)
  case true =>
    clear hid
    refine fn_pure Tryz.F3 (Nat.le_of_ble_eq_true rfl) ?_; unfold Tryz.ac3
    repeat' (first
 | (apply Awp.sreg; (case hn => (simp only [List.length_cons, List.length_nil, Nat.reduceAdd] <;> rfl)))
 | (refine st_nil ?_)
 | (apply st_a; (case hc => rfl); (case he => (simp only [go_sem, *] <;> rfl)); (case hu => (simp only [updL_nil, updL_cons] <;> rfl)); (case hp => first | assumption | trivial))
 | (apply st_m; (case hc => rfl); (case hg => (simp only [go_sem, *] <;> rfl)); (case he => (intro hQz; (try simp only [wantB_t, wantB_f, Bool.and_eq_true, Bool.not_eq_true', Bool.not_true, Bool.not_false, and_true, true_and] at hQz); simp only [go_sem, *] <;> rfl)); (case hp => (intro hQz; (try simp only [wantB_t, wantB_f, Bool.and_eq_true, Bool.not_eq_true', Bool.or_eq_false_iff, decide_eq_true_eq, decide_eq_false_iff_not, beq_iff_eq, beq_eq_false_iff_ne, bne_iff_ne, bne_eq_false_iff_eq, Int.not_lt, Int.not_le, Int.ofNat_lt, Int.ofNat_le] at hQz); first | trivial)))
 | (apply st_c; (case hc => (simp only [go_sem, *] <;> rfl)); (case hl => (simp only [go_sem, *] <;> rfl)); (case hn => (simp only [go_sem, *] <;> rfl)); (case hp => first | exact aw | (have hXz := aw; simp only [go_sem, *] at hXz; exact hXz)))
 | (apply st_g; (case hv => (simp only [go_sem, *] <;> rfl)); all_goals (intro hg; (try simp only [Bool.not_true, Bool.not_false, reduceCtorEq] at hg)))
 | (refine Awp.ret ?_; try simp only [go_sem, *])
 | (apply Awp.cond; (case hc => (simp only [go_sem, *] <;> rfl)); all_goals (intro hg; (try simp only [Bool.not_true, Bool.not_false, reduceCtorEq] at hg)))
 | refine Awp.seq ?_)
    all_goals repeat' (first | exact Lower.bool (by first | rfl | (simp only [true_and, Bool.true_and, Bool.false_and, Bool.and_true, Bool.and_false, Bool.true_or, Bool.false_or, reduceIte, Bool.false_eq_true, *]; done) | (simp only [true_and, reduceIte, Bool.false_eq_true, *] <;> rfl) | (simp [true_and]; done) | (simp_all [true_and]; done) | omega))
  cases h2 : decide ((12 : Int) < x.ps.length)
  case true =>
    clear hid
    refine fn_pure Tryz.F3 (Nat.le_of_ble_eq_true rfl) ?_; unfold Tryz.ac3
    repeat' (first
 | (apply Awp.sreg; (case hn => (simp only [List.length_cons, List.length_nil, Nat.reduceAdd] <;> rfl)))
 | (refine st_nil ?_)
 | (apply st_a; (case hc => rfl); (case he => (simp only [go_sem, *] <;> rfl)); (case hu => (simp only [updL_nil, updL_cons] <;> rfl)); (case hp => first | assumption | trivial))
 | (apply st_m; (case hc => rfl); (case hg => (simp only [go_sem, *] <;> rfl)); (case he => (intro hQz; (try simp only [wantB_t, wantB_f, Bool.and_eq_true, Bool.not_eq_true', Bool.not_true, Bool.not_false, and_true, true_and] at hQz); simp only [go_sem, *] <;> rfl)); (case hp => (intro hQz; (try simp only [wantB_t, wantB_f, Bool.and_eq_true, Bool.not_eq_true', Bool.or_eq_false_iff, decide_eq_true_eq, decide_eq_false_iff_not, beq_iff_eq, beq_eq_false_iff_ne, bne_iff_ne, bne_eq_false_iff_eq, Int.not_lt, Int.not_le, Int.ofNat_lt, Int.ofNat_le] at hQz); first | assumption | trivial)))
 | (apply st_c; (case hc => (simp only [go_sem, *] <;> rfl)); (case hl => (simp only [go_sem, *] <;> rfl)); (case hn => (simp only [go_sem, *] <;> rfl)); (case hp => first | exact aw | (have hXz := aw; simp only [go_sem, *] at hXz; exact hXz)))
 | (apply st_g; (case hv => (simp only [go_sem, *] <;> rfl)); all_goals (intro hg; (try simp only [Bool.not_true, Bool.not_false, reduceCtorEq] at hg)))
 | (refine Awp.ret ?_; try simp only [go_sem, *])
 | (apply Awp.cond; (case hc => (simp only [go_sem, *] <;> rfl)); all_goals (intro hg; (try simp only [Bool.not_true, Bool.not_false, reduceCtorEq] at hg)))
 | refine Awp.seq ?_)
    all_goals repeat' (first | exact Lower.bool (by first | rfl | (simp only [true_and, Bool.true_and, Bool.false_and, Bool.and_true, Bool.and_false, Bool.true_or, Bool.false_or, reduceIte, Bool.false_eq_true, *]; done) | (simp only [true_and, reduceIte, Bool.false_eq_true, *] <;> rfl) | (simp [true_and]; done) | (simp_all [true_and]; done) | omega))
  have h1' : x.ts.length ≤ 6 := by have := of_decide_eq_false h1; omega
  have h2' : x.ps.length ≤ 12 := by have := of_decide_eq_false h2; omega
  have kl := light_ok x.ps (by omega)
  cases h3 : lightB x.ps
  case false =>
    rw [h3] at kl
    clear hid h1' h2'
    refine fn_pure Tryz.F3 (Nat.le_of_ble_eq_true rfl) ?_; unfold Tryz.ac3
    repeat' (first
 | (apply Awp.sreg; (case hn => (simp only [List.length_cons, List.length_nil, Nat.reduceAdd] <;> rfl)))
 | (refine st_nil ?_)
 | (apply st_a; (case hc => rfl); (case he => (simp only [go_sem, *] <;> rfl)); (case hu => (simp only [updL_nil, updL_cons] <;> rfl)); (case hp => first | assumption | trivial))
 | (apply st_m; (case hc => rfl); (case hg => (simp only [go_sem, *] <;> rfl)); (case he => (intro hQz; (try simp only [wantB_t, wantB_f, Bool.and_eq_true, Bool.not_eq_true', Bool.not_true, Bool.not_false, and_true, true_and] at hQz); simp only [go_sem, *] <;> rfl)); (case hp => (intro hQz; (try simp only [wantB_t, wantB_f, Bool.and_eq_true, Bool.not_eq_true', Bool.or_eq_false_iff, decide_eq_true_eq, decide_eq_false_iff_not, beq_iff_eq, beq_eq_false_iff_ne, bne_iff_ne, bne_eq_false_iff_eq, Int.not_lt, Int.not_le, Int.ofNat_lt, Int.ofNat_le] at hQz); first | assumption)))
 | (apply st_mc; (case hop => rfl); (case hg => (simp only [go_sem, *] <;> rfl)); (case hc => (intro hQz; (try simp only [wantB_t, wantB_f, Bool.and_eq_true, Bool.not_eq_true', Bool.not_true, Bool.not_false, and_true, true_and] at hQz); simp only [go_sem, *] <;> rfl)); (case hl => (intro hQz; (try simp only [wantB_t, wantB_f, Bool.and_eq_true, Bool.not_eq_true', Bool.not_true, Bool.not_false, and_true, true_and] at hQz); simp only [go_sem, *] <;> rfl)); (case hn => (intro hQz; (try simp only [wantB_t, wantB_f, Bool.and_eq_true, Bool.not_eq_true', Bool.not_true, Bool.not_false, and_true, true_and] at hQz); simp only [go_sem, *] <;> rfl)); (case hp => intro hQz; first | exact kl | (have hXz := kl; simp only [go_sem, *] at hXz; exact hXz)))
 | (apply st_c; (case hc => (simp only [go_sem, *] <;> rfl)); (case hl => (simp only [go_sem, *] <;> rfl)); (case hn => (simp only [go_sem, *] <;> rfl)); (case hp => first | exact aw | (have hXz := aw; simp only [go_sem, *] at hXz; exact hXz)))
 | (refine Awp.ret ?_; try simp only [go_sem, *])
 | (apply Awp.cond; (case hc => (simp only [go_sem, *] <;> rfl)); all_goals (intro hg; (try simp only [Bool.not_true, Bool.not_false, reduceCtorEq] at hg)))
 | refine Awp.seq ?_)
    all_goals repeat' (first | exact Lower.bool (by first | rfl | (simp only [true_and, Bool.true_and, Bool.false_and, Bool.and_true, Bool.and_false, Bool.true_or, Bool.false_or, reduceIte, Bool.false_eq_true, *]; done) | (simp only [true_and, reduceIte, Bool.false_eq_true, *] <;> rfl) | (simp [true_and]; done) | (simp_all [true_and]; done) | omega))
  have hf := few_of h1' h2' h3
  rw [h3] at kl
  have c1 := taken_ok x.nm x.gap x.ts x.ps hf
  have c2 := rtaken_ok x.nm x.gap x.ts x.ps hf
  have c3 := of_ok x.sh x.nm x.gap x.ts x.ps x.least hid hf
  have c4 := rof_ok x.sh x.nm x.gap x.ts x.ps x.least hid h1' hf
  have c5 := same_ok (takenE x.ts x.ps).1 (by have := taken_len (ps := x.ps) h1'; omega)
  clear hid hf h1' h2' h3
  generalize takenE x.ts x.ps = T at *
  generalize ofE x.sh x.gap x.ts x.ps x.least = O at *
  obtain ⟨T1, T2⟩ := T
  obtain ⟨O1, O2⟩ := O
  simp only [] at c1 c2 c3 c4 c5
  have e0 : (T2 == T2) = true := by simp
  have e1 : (O1.thick == O1.thick) = true := by simp
  have e2 : (O1.len == O1.len) = true := by simp
  have e3 : (O1.wid == O1.wid) = true := by simp
  have e4 : (O1.id.toList == O1.id.toList) = true := by simp
  have e5 : (O1.grade.toList == O1.grade.toList) = true := by simp
  have e6 : (O1.heat.toList == O1.heat.toList) = true := by simp
  have e7 : (O2 == O2) = true := by simp
  refine fn_pure Tryz.F3 (Nat.le_of_ble_eq_true rfl) ?_; unfold Tryz.ac3
  repeat' (first
 | (apply Awp.sreg; (case hn => (simp only [List.length_cons, List.length_nil, Nat.reduceAdd] <;> rfl)))
 | (refine st_nil ?_)
 | (apply st_a; (case hc => rfl); (case he => (simp only [go_sem, *] <;> rfl)); (case hu => (simp only [updL_nil, updL_cons] <;> rfl)); (case hp => first | assumption | trivial))
 | (apply st_m; (case hc => rfl); (case hg => (simp only [go_sem, *] <;> rfl)); (case he => (intro hQz; (try simp only [wantB_t, wantB_f, Bool.and_eq_true, Bool.not_eq_true', Bool.not_true, Bool.not_false, and_true, true_and] at hQz); simp only [go_sem, *] <;> rfl)); (case hp => (intro hQz; (try simp only [wantB_t, wantB_f, Bool.and_eq_true, Bool.not_eq_true', Bool.or_eq_false_iff, decide_eq_true_eq, decide_eq_false_iff_not, beq_iff_eq, beq_eq_false_iff_ne, bne_iff_ne, bne_eq_false_iff_eq, Int.not_lt, Int.not_le, Int.ofNat_lt, Int.ofNat_le] at hQz); first | assumption)))
 | (apply st_mc; (case hop => rfl); (case hg => (simp only [go_sem, *] <;> rfl)); (case hc => (intro hQz; (try simp only [wantB_t, wantB_f, Bool.and_eq_true, Bool.not_eq_true', Bool.not_true, Bool.not_false, and_true, true_and] at hQz); simp only [go_sem, *] <;> rfl)); (case hl => (intro hQz; (try simp only [wantB_t, wantB_f, Bool.and_eq_true, Bool.not_eq_true', Bool.not_true, Bool.not_false, and_true, true_and] at hQz); simp only [go_sem, *] <;> rfl)); (case hn => (intro hQz; (try simp only [wantB_t, wantB_f, Bool.and_eq_true, Bool.not_eq_true', Bool.not_true, Bool.not_false, and_true, true_and] at hQz); simp only [go_sem, *] <;> rfl)); (case hp => intro hQz; first | exact kl | (have hXz := kl; simp only [go_sem, *] at hXz; exact hXz)))
 | (apply st_mc; (case hop => rfl); (case hg => (simp only [go_sem, *] <;> rfl)); (case hc => (intro hQz; (try simp only [wantB_t, wantB_f, Bool.and_eq_true, Bool.not_eq_true', Bool.not_true, Bool.not_false, and_true, true_and] at hQz); simp only [go_sem, *] <;> rfl)); (case hl => (intro hQz; (try simp only [wantB_t, wantB_f, Bool.and_eq_true, Bool.not_eq_true', Bool.not_true, Bool.not_false, and_true, true_and] at hQz); simp only [go_sem, *] <;> rfl)); (case hn => (intro hQz; (try simp only [wantB_t, wantB_f, Bool.and_eq_true, Bool.not_eq_true', Bool.not_true, Bool.not_false, and_true, true_and] at hQz); simp only [go_sem, *] <;> rfl)); (case hp => intro hQz; first | exact aw | (have hXz := aw; simp only [go_sem, *] at hXz; exact hXz)))
 | (apply st_c; (case hc => (simp only [go_sem, *] <;> rfl)); (case hl => (simp only [go_sem, *] <;> rfl)); (case hn => (simp only [go_sem, *] <;> rfl)); (case hp => first | exact c1 | (have hXz := c1; simp only [go_sem, *] at hXz; exact hXz)))
 | (apply st_c; (case hc => (simp only [go_sem, *] <;> rfl)); (case hl => (simp only [go_sem, *] <;> rfl)); (case hn => (simp only [go_sem, *] <;> rfl)); (case hp => first | exact c2 | (have hXz := c2; simp only [go_sem, *] at hXz; exact hXz)))
 | (apply st_c; (case hc => (simp only [go_sem, *] <;> rfl)); (case hl => (simp only [go_sem, *] <;> rfl)); (case hn => (simp only [go_sem, *] <;> rfl)); (case hp => first | exact c3 | (have hXz := c3; simp only [go_sem, *] at hXz; exact hXz)))
 | (apply st_c; (case hc => (simp only [go_sem, *] <;> rfl)); (case hl => (simp only [go_sem, *] <;> rfl)); (case hn => (simp only [go_sem, *] <;> rfl)); (case hp => first | exact c4 | (have hXz := c4; simp only [go_sem, *] at hXz; exact hXz)))
 | (apply st_c; (case hc => (simp only [go_sem, *] <;> rfl)); (case hl => (simp only [go_sem, *] <;> rfl)); (case hn => (simp only [go_sem, *] <;> rfl)); (case hp => first | exact c5 | (have hXz := c5; simp only [go_sem, *] at hXz; exact hXz)))
 | (refine Awp.ret ?_; try simp only [go_sem, *])
 | (refine Awp.skip ?_; try simp only [go_sem, *])
 | (apply Awp.cond; (case hc => (simp only [go_sem, *] <;> rfl)); all_goals (intro hg; (try simp only [Bool.not_true, Bool.not_false, reduceCtorEq] at hg)))
 | refine Awp.seq ?_)
  all_goals repeat' (first | exact Lower.bool (by first | rfl | (simp only [true_and, Bool.true_and, Bool.false_and, Bool.and_true, Bool.and_false, Bool.true_or, Bool.false_or, reduceIte, Bool.false_eq_true, *]; done) | (simp only [true_and, reduceIte, Bool.false_eq_true, *] <;> rfl) | (simp [true_and]; done) | (simp_all [true_and]; done) | omega))
end Go.Proofs
end
section
set_option linter.unusedVariables false
set_option linter.unusedSimpArgs false
namespace Go.Ab
open Go.ChangeShapes Go.WideShapes Go.RowKit

theorem Keeps.below {W W' : World} (h : Keeps W W') : Below W.heap.size W W' := ⟨h.os, h.tape, h.out, h.size, h.heap⟩

section
variable {H : Type} {enc : TypeId × Value → H} {P : Program}

theorem trodAll_keeps (hl : laidOutB P = true) {W W' : World} {sp : Nat → Bool} (hb : Below W.heap.size W W') :
    ∀ {ts : List TypeId} {vs : List Value} {ds : List (DataW H)} {ps : List MemPlace}, (∀ t ∈ ts, P.readableRec t = true ∧ t < P.types.size) → (∀ x ∈ ps, x.block < W.heap.size) → (∀ x ∈ ps, sp x.block = true) →
      DataW.TrodAll enc P W 0 (fun _ => true) true ts vs ds ps → DataW.TrodAll enc P W' 0 sp true ts vs ds ps
  | [], _, _, _, _, _, _, h => by
    obtain ⟨rfl, rfl, rfl⟩ := trodAll_nil h
    exact trodAll_mk0
  | t :: ts, _, _, _, hts, hlt, hsp, h => by
    obtain ⟨v, vs, d, ds, a, b, rfl, rfl, rfl, h1, h2⟩ := trodAll_cons h
    obtain ⟨hr, hrow⟩ := hts t (List.mem_cons.2 (.inl rfl))
    refine trodAll_cons_mk (WideElems.Trod_stays hl hr hrow h1 (fun x hx => hb.same (hlt x ?_)) (fun x hx => hsp x ?_)) (trodAll_keeps hl hb (fun u hu => hts u (List.mem_cons.2 (.inr hu))) (fun x hx => hlt x ?_) (fun x hx => hsp x ?_) h2)
    all_goals simp [hx]

theorem post_true {f : Func} {s : ChangeSpec} {apart fresh handsOn again : Bool} {W W' : World} {args : Array Value} {ds gs : List (DataW H)} {before : List MemPlace} {tb : TypeId}
    (hl : laidOutB P = true) (htb' : (f.params.toList.all fun t => P.readableRec t && decide (t < P.types.size)) = true) (hrt : f.resultTypes = #[tb]) (htb : P.underlying tb = some .bool) (hs : s.vars = [])
    (hW : DataW.Whole enc P f.params.toList s.vars apart W args.toList ds gs before) (hb : Below W.heap.size W W')
    (hf : (s.fn H (ds ++ gs)).results = [.lit (.bool true)] ∧ (s.fn H (ds ++ gs)).args = ds ∧ (s.fn H (ds ++ gs)).vars = []) :
    s.post enc P f apart fresh handsOn again W args (.bool true) W' := by
  have hts : ∀ t ∈ f.params.toList, P.readableRec t = true ∧ t < P.types.size := fun t ht => by simpa using List.all_eq_true.1 htb' t ht
  have hW' := hW
  obtain ⟨p, q, hA, hV, hpq, hz, hn⟩ := hW
  have hV0 : gs = [] ∧ q = [] := by rw [hs] at hV; exact trodVars_none hV
  obtain ⟨rfl, rfl⟩ := hV0
  obtain rfl : before = p := by simpa using hpq
  obtain ⟨f1, f2, f3⟩ := hf
  have hlt : ∀ x ∈ before, x.block < W.heap.size := fun x hx => hW'.lt x hx
  have hargs : ∀ sp : Nat → Bool, (∀ x ∈ before, sp x.block = true) → DataW.TrodAll enc P W' 0 sp true f.params.toList args.toList (s.fn H (ds ++ [])).args before := fun sp hsp => by
    rw [f2]; exact trodAll_keeps hl hb hts hlt hsp hA
  have hvars : ∀ sp : Nat → Bool, DataW.TrodVars enc P W' sp s.vars (s.fn H (ds ++ [])).vars [] := fun sp => by rw [f3, hs]; rfl
  have hres : ∀ (b : Nat) (sp : Nat → Bool) (hd : Bool), DataW.TrodAll enc P W' b sp hd f.resultTypes.toList ((Value.bool true).resultList f.resultTypes.size) (s.fn H (ds ++ [])).results [] := fun b sp hd => by
    rw [f1, hrt]; exact trodAll_cons_mk (shut_bool htb _) trodAll_mk0
  have hold : ∀ x ∈ before, (fun b => decide (b < W.heap.size)) x.block = true := fun x hx => by simpa using hlt x hx
  refine ⟨ds, [], before, [], before, [], hW', hres _ _ _, hargs _ hold, hvars _, World.keptBut_mono (fun x hx => ⟨hx, .inr (by simpa using hx)⟩) (hb.frame (· ∈ before)), fun _ => ⟨?_, _, _, ([] ++ before) ++ [], ⟨[] ++ before, [], trodAll_append (hargs _ fun _ _ => rfl) (hres _ _ _), hvars _, rfl, ?_, ?_⟩, ?_⟩⟩
  · exact ok_one hrt rfl (okWide_bool_mk htb _)
  · intro b off hp
    have hp' : MemPlace.cell b off ∈ before := by simpa using hp
    rw [hb.frozen (p := ⟨b, off, none⟩) (hlt _ hp')]
    exact hz b off hp'
  · intro ha
    simpa using hn ha
  · intro x hx _
    simpa using hx

theorem pargs1 {w : World} {a0 : AV} {c0 : Value} (h0 : PureV (fun g => g < w.heap.size ∧ True) w a0 c0) : PArgs (fun _ => True) w [a0] [c0] :=
  ⟨rfl, fun j hj => by match j, hj with | 0, _ => exact h0⟩
/-- A contract that says 'true', at a call whose arguments read so: the row's 'post'. -/
theorem calls_true {f : Func} {fid : FuncId} {s : ChangeSpec} {apart fresh handsOn again : Bool} {W : World} {asz : List AV} {cs : List Value} {ds gs : List (DataW H)} {before : List MemPlace} {tb : TypeId}
    (hl : laidOutB P = true) (htb' : (f.params.toList.all fun t => P.readableRec t && decide (t < P.types.size)) = true) (hrt : f.resultTypes = #[tb]) (htb : P.underlying tb = some .bool) (hs : s.vars = [])
    (hW : DataW.Whole enc P f.params.toList s.vars apart W cs.toArray.toList ds gs before) (hf : (s.fn H (ds ++ gs)).results = [.lit (.bool true)] ∧ (s.fn H (ds ++ gs)).args = ds ∧ (s.fn H (ds ++ gs)).vars = [])
    (hc : Pure P fid asz (.v (.bool true))) (ha : PArgs (fun _ => True) W asz cs) :
    Calls P fid cs.toArray W fun e W' => ∃ v, e = .returned v ∧ s.post enc P f apart fresh handsOn again W cs.toArray v W' := by
  refine (hc.2 _ W cs ha).mono fun e W' ⟨c, he, hk, hv⟩ => ?_
  obtain rfl : c = .bool true := by cases hv; rfl
  exact ⟨_, he, post_true hl htb' hrt htb hs hW hk.below hf⟩
end
end Go.Ab
end
section
set_option linter.unusedVariables false
set_option linter.unusedSimpArgs false
namespace Go.Ab
open Go.ChangeShapes Go.WideShapes Go.RowKit

/-- Fields that lie one behind the other. -/
def tiledTo (P : Program) (off : Nat) : List Field → Nat → Bool
  | [], e => off == e
  | f :: fs, e => f.offset == off && tiledTo P (off + P.cellsOf f.type) fs e

def readsTy (P : Program) : Nat → TypeId → Bool
  | 0, _ => false
  | n + 1, t => match P.underlying t with
    | some (.int _) | some .bool | some .string => P.cellsOf t == 1
    | some (.struct fs) => tiledTo P 0 fs.toList (P.cellsOf t) && fs.toList.all fun f => readsTy P n f.type
    | some (.slice e) => P.cellsOf t == 1 && decide (0 < P.cellsOf e) && readsTy P n e
    | some (.array k e) => P.cellsOf t == k * P.cellsOf e && readsTy P n e
    | _ => false

def FieldsShape (S : TypeId → List AV → Prop) : List TypeId → List AV → Prop
  | [], asz => asz = []
  | t :: ts, asz => ∃ p q, asz = p ++ q ∧ S t p ∧ FieldsShape S ts q

/-- The cells of a value of a type. -/
def Shape (P : Program) : Nat → TypeId → List AV → Prop
  | 0, _, _ => False
  | n + 1, t, asz => match P.underlying t with
    | some (.int k) => ∃ i, asz = [.v (.int k i)] ∧ (Lit.int k i).wf = true
    | some .bool => ∃ b, asz = [.v (.bool b)]
    | some .string => ∃ s : ByteArray, asz = [.v (.string s)] ∧ s.size ≤ maxLen
    | some (.struct fs) => FieldsShape (Shape P n) (fs.toList.map (·.type)) asz
    | some (.slice e) => ∃ es, asz = [.sl es] ∧ es.length ≤ maxLen ∧ ∀ r ∈ es, Shape P n e r
    | some (.array k e) => ∃ rs : List (List AV), asz = rs.flatten ∧ rs.length = k ∧ ∀ r ∈ rs, Shape P n e r
    | _ => False

theorem av_append_left {p q : List AV} {j : Nat} (h : j < p.length) : av (p ++ q) j = av p j := by
  simp [av, List.getD_eq_getElem?_getD, List.getElem?_append_left h]
theorem av_append_right {p q : List AV} {j : Nat} (h : p.length ≤ j) : av (p ++ q) j = av q (j - p.length) := by
  simp [av, List.getD_eq_getElem?_getD, List.getElem?_append_right h]
theorem cv_piece {cs : List Value} {o k j : Nat} (h : j < k) : cv ((cs.drop o).take k) j = cv cs (o + j) := by
  simp [cv, List.getD_eq_getElem?_getD, List.getElem?_take_of_lt h, List.getElem?_drop]

theorem lists {α : Type} {Q : Nat → α → Prop} : ∀ (n : Nat), (∀ i, i < n → ∃ a, Q i a) → ∃ l : List α, l.length = n ∧ ∀ i a, l[i]? = some a → Q i a
  | 0, _ => ⟨[], rfl, fun i a h => by simp at h⟩
  | n + 1, h => by
    obtain ⟨l, hl, hq⟩ := lists n fun i hi => h i (by omega)
    obtain ⟨a, ha⟩ := h n (by omega)
    refine ⟨l ++ [a], by simp [hl], fun i b hb => ?_⟩
    rcases Nat.lt_or_ge i n with hi | hi
    · rw [List.getElem?_append_left (by omega)] at hb; exact hq i b hb
    · rw [List.getElem?_append_right (by omega)] at hb
      by_cases e : i - l.length = 0
      · rw [e] at hb
        obtain rfl : a = b := by simpa using hb
        obtain rfl : i = n := by omega
        exact ha
      · rw [List.getElem?_eq_none (by simp; omega)] at hb; simp at hb

def CellsOk (w : World) (asz : List AV) (cs : List Value) (o : Nat) : Prop :=
  ∀ j, j < asz.length → PureV (fun g => g < w.heap.size) w (av asz j) (cv cs (o + j)) ∧ (cv cs (o + j)).oneCell' = true

theorem CellsOk.append {w : World} {p q : List AV} {cs : List Value} {o : Nat} (h1 : CellsOk w p cs o) (h2 : CellsOk w q cs (o + p.length)) : CellsOk w (p ++ q) cs o := by
  intro j hj
  rcases Nat.lt_or_ge j p.length with h | h
  · rw [av_append_left h]; exact h1 j h
  · rw [av_append_right h]
    have := h2 (j - p.length) (by simp at hj; omega)
    rwa [show o + p.length + (j - p.length) = o + j by omega] at this

section
variable {H : Type} {enc : TypeId × Value → H} {P : Program} {w : World} {spare : Nat → Bool} {held : Bool}

theorem read_fields {S : TypeId → List AV → Prop} {cs : List Value} : ∀ (fs : List Field) (o e : Nat), tiledTo P o fs e = true → e ≤ cs.length →
    (∀ f ∈ fs, ∃ asz, S f.type asz ∧ asz.length = P.cellsOf f.type ∧ CellsOk w asz cs f.offset) → ∃ asz, FieldsShape S (fs.map (·.type)) asz ∧ o + asz.length = e ∧ CellsOk w asz cs o
  | [], o, e, ht, _, _ => ⟨[], rfl, by simpa [tiledTo] using ht, fun j hj => by simp at hj⟩
  | f :: fs, o, e, ht, he, hf => by
    simp only [tiledTo, Bool.and_eq_true, beq_iff_eq] at ht
    obtain ⟨p, hp, hpl, hpc⟩ := hf f (List.mem_cons.2 (.inl rfl))
    obtain ⟨q, hq, hql, hqc⟩ := read_fields fs _ e ht.2 he fun g hg => hf g (List.mem_cons.2 (.inr hg))
    rw [ht.1] at hpc
    rw [← hpl] at hqc hql
    exact ⟨p ++ q, ⟨p, q, rfl, hp, hq⟩, by simp; omega, hpc.append hqc⟩

theorem read_rows {S : List AV → Prop} {cs : List Value} {sz : Nat} : ∀ (k o : Nat),
    (∀ i, i < k → ∃ asz, S asz ∧ asz.length = sz ∧ CellsOk w asz cs (o + i * sz)) → ∃ rs : List (List AV), rs.length = k ∧ (∀ r ∈ rs, S r) ∧ rs.flatten.length = k * sz ∧ CellsOk w rs.flatten cs o
  | 0, o, _ => ⟨[], rfl, by simp, by simp, fun j hj => by simp at hj⟩
  | k + 1, o, h => by
    obtain ⟨p, hp, hpl, hpc⟩ := h 0 (by omega)
    obtain ⟨rs, hl, hs, hf, hc⟩ := read_rows k (o + sz) fun i hi => by
      obtain ⟨asz, h1, h2, h3⟩ := h (i + 1) (by omega)
      exact ⟨asz, h1, h2, by rwa [show o + sz + i * sz = o + (i + 1) * sz by rw [Nat.add_mul]; omega]⟩
    refine ⟨p :: rs, by simp [hl], fun r hr => ?_, by simp [hf, hpl, Nat.add_mul, Nat.add_comm], ?_⟩
    · rcases List.mem_cons.1 hr with rfl | hr
      · exact hp
      · exact hs r hr
    · simp only [List.flatten_cons]
      refine CellsOk.append (by simpa using hpc) (by rw [hpl]; exact hc)

theorem read_ty : ∀ (n : Nat) (t : TypeId), readsTy P n t = true → ∀ {fuel : Nat} {cs : List Value} {x : DataW H × List MemPlace}, DataW.trod enc P w 0 spare held fuel t cs = some x →
    cs.length = P.cellsOf t ∧ ∃ asz, Shape P n t asz ∧ asz.length = cs.length ∧ CellsOk w asz cs 0
  | 0, t, ht, _, _, _, _ => by simp [readsTy] at ht
  | n + 1, t, ht, fuel, cs, x, h => by
    unfold readsTy at ht
    unfold Shape
    split at ht
    · rename_i k hu
      obtain ⟨i, rfl, _, hw⟩ := DataW.trod_int hu h
      exact ⟨by simpa using (by simpa using ht : P.cellsOf t = 1).symm, _, ⟨i, rfl, hw⟩, rfl, fun j hj => by match j, hj with | 0, _ => exact ⟨.v _, rfl⟩⟩
    · rename_i hu
      obtain ⟨b, rfl, _⟩ := DataW.trod_bool hu h
      exact ⟨by simpa using (by simpa using ht : P.cellsOf t = 1).symm, _, ⟨b, rfl⟩, rfl, fun j hj => by match j, hj with | 0, _ => exact ⟨.v _, rfl⟩⟩
    · rename_i hu
      obtain ⟨s, rfl, _, hw⟩ := DataW.trod_string hu h
      exact ⟨by simpa using (by simpa using ht : P.cellsOf t = 1).symm, _, ⟨s, rfl, hw⟩, rfl, fun j hj => by match j, hj with | 0, _ => exact ⟨.v _, rfl⟩⟩
    · rename_i fs hu
      simp only [Bool.and_eq_true, List.all_eq_true] at ht
      obtain ⟨xs, m, _, _, hl, hlen, hf⟩ := DataW.trod_struct hu h
      refine ⟨hl, ?_⟩
      obtain ⟨asz, h1, h2, h3⟩ := read_fields (S := Shape P n) (w := w) (cs := cs) fs.toList 0 (P.cellsOf t) ht.1 (by omega) fun f hfm => by
        obtain ⟨i, hi, hfi⟩ := List.getElem_of_mem hfm
        have hi' : i < fs.size := by simpa using hi
        have e1 : fs[i]? = some f := by rw [Array.getElem?_eq_getElem hi']; simpa using hfi
        have h4 := hf i f e1
        obtain ⟨y, hy⟩ : ∃ y, xs[i]? = some y := ⟨_, List.getElem?_eq_getElem (by omega)⟩
        rw [hy] at h4
        obtain ⟨k1, asz, k2, k3, k4⟩ := read_ty n f.type (ht.2 f hfm) h4
        refine ⟨asz, k2, by omega, fun j hj => ?_⟩
        have := k4 j hj
        rw [Nat.zero_add, cv_piece (by omega)] at this
        exact this
      exact ⟨asz, h1, by omega, h3⟩
    · rename_i e hu
      simp only [Bool.and_eq_true, decide_eq_true_eq, beq_iff_eq] at ht
      rcases DataW.trod_slice hu h with ⟨rfl, _⟩ | ⟨a, len, cap, elems, rest, m, _, rfl, _, hb, hl, hm, hlen, hel, _, _⟩
      · exact ⟨by simpa using ht.1.1.symm, _, ⟨[], rfl, by simp, by simp⟩, rfl, fun j hj => by match j, hj with | 0, _ => exact ⟨.slE none 0 (by simp), rfl⟩⟩
      · refine ⟨by simpa using ht.1.1.symm, ?_⟩
        have each : ∀ i, i < len → ∃ asz : List AV × List Value, Shape P n e asz.1 ∧ asz.1.length = P.cellsOf e ∧ (∀ j, j < P.cellsOf e → w.cell? ((a.add (i * P.cellsOf e)).add j) = some (cv asz.2 j)) ∧ CellsOk w asz.1 asz.2 0 := by
          intro i hi
          have h4 := hel i hi
          obtain ⟨y, hy⟩ : ∃ y, elems[i]? = some y := ⟨_, List.getElem?_eq_getElem (by omega)⟩
          rw [hy, Option.bind_eq_some_iff] at h4
          obtain ⟨cs', hc, ht'⟩ := h4
          obtain ⟨k1, asz, k2, k3, k4⟩ := read_ty n e ht.2 ht'
          obtain ⟨_, hcl, hca⟩ := World.cells?_some hc
          refine ⟨(asz, cs'), k2, by simp; omega, fun j hj => ?_, k4⟩
          rw [hca j hj]
          have : j < cs'.length := by omega
          simp [cv, List.getD_eq_getElem?_getD, this]
        obtain ⟨l, hll, hlq⟩ := lists len each
        by_cases h0 : len = 0
        · subst h0
          exact ⟨_, ⟨[], rfl, by simp, by simp⟩, rfl, fun j hj => by match j, hj with | 0, _ => exact ⟨.slE (some a) cap hm, rfl⟩⟩
        · have hg0 := (hlq 0 _ (List.getElem?_eq_getElem (by omega))).2.2.1 0 ht.1.2
          obtain ⟨g, off, q⟩ := a
          have hq : q = none ∧ g < w.heap.size := by
            have e0 : ((Addr.mk g off q).add (0 * P.cellsOf e)).add 0 = ⟨g, off, q⟩ := by simp [Addr.add]
            rw [e0] at hg0
            unfold World.cell? at hg0
            cases hg : w.heap[g]? with
            | none => simp [hg] at hg0
            | some o =>
              refine ⟨?_, (Array.getElem?_eq_some_iff.1 hg).1⟩
              cases q with
              | none => rfl
              | some v => cases o <;> simp [hg] at hg0
          obtain ⟨rfl, hlt⟩ := hq
          have hes : (l.map (·.1)).length = len := by simp [hll]
          have at_ : ∀ i (hi : i < len), ∃ asz, l[i]? = some asz ∧ (l.map (·.1)).getD i [] = asz.1 ∧ (fun i j => cv ((l.map (·.2)).getD i []) j) i = cv asz.2 := by
            intro i hi
            refine ⟨l[i]'(by omega), List.getElem?_eq_getElem (by omega), ?_, ?_⟩
            · simp [List.getD_eq_getElem?_getD, List.getElem?_eq_getElem (show i < l.length by omega)]
            · funext j
              simp [List.getD_eq_getElem?_getD, List.getElem?_eq_getElem (show i < l.length by omega)]
          have hp := PureV.slC (st := fun g => g < w.heap.size) (w := w) (l.map (·.1)) g off cap (P.cellsOf e) (fun i j => cv ((l.map (·.2)).getD i []) j) (by omega) hm ht.1.2 (fun e' => by rw [e'] at hes; simp at hes; omega)
            (fun r hr => by
              obtain ⟨asz, has, rfl⟩ := List.mem_map.1 hr
              obtain ⟨i, hi⟩ := List.getElem?_of_mem has
              exact (hlq i asz hi).2.1)
            hlt
            (fun i j hi hj => by
              obtain ⟨asz, ha, e1, e2⟩ := at_ i (by omega)
              have h5 := (hlq i asz ha).2.2.1 j hj
              have h6 := ((hlq i asz ha).2.2.2 j (by rw [(hlq i asz ha).2.1]; exact hj)).2
              rw [Nat.zero_add] at h6
              have e3 : cv ((l.map (·.2)).getD i []) j = cv asz.2 j := congrFun e2 j
              show w.cell? _ = some (cv ((l.map (·.2)).getD i []) j) ∧ (cv ((l.map (·.2)).getD i []) j).oneCell' = true
              rw [e3]
              refine ⟨?_, h6⟩
              rw [← h5]
              congr 1
              simp only [Addr.add]
              split <;> split <;> simp_all <;> omega)
            (fun i j hi hj => by
              obtain ⟨asz, ha, e1, e2⟩ := at_ i (by omega)
              have h6 := ((hlq i asz ha).2.2.2 j (by rw [(hlq i asz ha).2.1]; exact hj)).1
              rw [Nat.zero_add] at h6
              have e3 : cv ((l.map (·.2)).getD i []) j = cv asz.2 j := congrFun e2 j
              show PureV _ w (av ((l.map (·.1)).getD i []) j) (cv ((l.map (·.2)).getD i []) j)
              rw [e1, e3]
              exact h6)
          rw [hes] at hp
          refine ⟨[.sl (l.map (·.1))], ⟨_, rfl, by omega, fun r hr => ?_⟩, rfl, fun j hj => by match j, hj with | 0, _ => exact ⟨hp, rfl⟩⟩
          obtain ⟨asz, has, rfl⟩ := List.mem_map.1 hr
          obtain ⟨i, hi⟩ := List.getElem?_of_mem has
          exact (hlq i asz hi).1
    · rename_i k e hu
      simp only [Bool.and_eq_true, beq_iff_eq] at ht
      obtain ⟨xs, m, _, _, hl, hlen, hf⟩ := DataW.trod_array hu h
      refine ⟨hl, ?_⟩
      obtain ⟨rs, h1, h2, h3, h4⟩ := read_rows (S := Shape P n e) (w := w) (cs := cs) (sz := P.cellsOf e) k 0 fun i hi => by
        have h4 := hf i hi
        obtain ⟨y, hy⟩ : ∃ y, xs[i]? = some y := ⟨_, List.getElem?_eq_getElem (by omega)⟩
        rw [hy] at h4
        obtain ⟨k1, asz, k2, k3, k4⟩ := read_ty n e ht.2 h4
        refine ⟨asz, k2, by omega, fun j hj => ?_⟩
        have := k4 j hj
        rw [Nat.zero_add, cv_piece (by omega)] at this
        rwa [Nat.zero_add]
      exact ⟨rs.flatten, ⟨rs, rfl, h1, h2⟩, by omega, h4⟩
    · simp at ht

/-- A struct among the arguments. -/
theorem arg_struct {t : TypeId} {fs : Array Field} {r : Reach} {b0 : Nat} {v : Value} {d : DataW H} {p : List MemPlace} (n : Nat) (hu : P.underlying t = some (.struct fs)) (ht : readsTy P n t = true)
    (hval : Value.okWide P w r b0 t v) (hd : DataW.Trod enc P w 0 spare held t v d p) : ∃ asz, Shape P n t asz ∧ PureV (fun g => g < w.heap.size ∧ True) w (.agg asz) v := by
  obtain ⟨fuel, h⟩ := hd
  unfold Value.okWide at hval
  rw [hu] at hval
  obtain ⟨cs, rfl, _, _⟩ := hval
  obtain ⟨_, asz, h1, h2, h3⟩ := read_ty n t ht h
  refine ⟨asz, h1, ?_⟩
  have e : cs = cs.toList.toArray := by simp
  have h2 : asz.length = cs.toList.length := h2
  rw [e]
  refine .agg _ cs.toList h2 (fun u hu => ?_) (fun j hj => ?_)
  · obtain ⟨j, hj, rfl⟩ := List.getElem_of_mem hu
    have := (h3 j (by omega)).2
    rw [Nat.zero_add] at this
    have e2 : cv (Value.agg cs).cells.toList j = cs.toList[j] := by show cv cs.toList j = _; unfold cv; rw [List.getD_eq_getElem?_getD, List.getElem?_eq_getElem hj]; rfl
    rw [e2] at this
    exact this
  · have := (h3 j hj).1
    rw [Nat.zero_add] at this
    exact this.mono fun g hg => ⟨⟨hg, trivial⟩, rfl⟩

end

/-- The cells that a datum lays. -/
def laidVals : Nat → DataW Unit → List Value
  | 0, _ => []
  | _ + 1, .lit (.int k n) => [.int k n]
  | _ + 1, .lit (.bool b) => [.bool b]
  | _ + 1, .lit (.string s) => [.string ⟨s.toArray⟩]
  | n + 1, .agg xs => xs.flatMap (laidVals n)
  | _ + 1, _ => []

theorem map_shape {α : Type} {f : α → List AV} : ∀ {es : List (List AV)}, (∀ r ∈ es, ∃ x : α, r = f x) → ∃ l : List α, es = l.map f
  | [], _ => ⟨[], rfl⟩
  | r :: es, h => by
    obtain ⟨x, rfl⟩ := h r (List.mem_cons.2 (.inl rfl))
    obtain ⟨l, rfl⟩ := map_shape (es := es) fun q hq => h q (List.mem_cons.2 (.inr hq))
    exact ⟨x :: l, rfl⟩
end Go.Ab
end
section
set_option linter.unusedVariables false
set_option linter.unusedSimpArgs false
namespace Go.Proofs
open Go Go.Ab Go.ChangeShapes Go.WideShapes Go.ChangeAt Go.RowKit
set_option maxRecDepth 100000
theorem rest_laid : laidOutB Tryz.prog = true := by kernel_rfl
theorem rest_own : ownKnob Tryz.prog.godebug = none := by kernel_rfl
theorem shape_pt (n : Nat) {qs : List AV} (h : Shape Tryz.prog (n + 2) 52 qs) : ∃ x : Pt, qs = x.cells := by
  unfold Shape at h
  rw [Tryz.underlying52] at h
  simp only [List.map_cons, List.map_nil, FieldsShape] at h
  obtain ⟨_, _, rfl, h0, _, _, rfl, h1, rfl⟩ := h
  unfold Shape at h0 h1
  simp only [Tryz.underlying3, Tryz.underlying9, Tryz.underlying4] at h0 h1
  obtain ⟨x0, rfl, _⟩ := h0
  obtain ⟨x1, rfl, _⟩ := h1
  exact ⟨⟨x0, x1⟩, rfl⟩
theorem shape_pts (n : Nat) {qs : List AV} (h : Shape Tryz.prog (n + 3) 40 qs) : ∃ l : List Pt, qs = [.sl (pts l)] := by
  unfold Shape at h
  rw [Tryz.underlying40] at h
  obtain ⟨es, rfl, _, he⟩ := h
  obtain ⟨l, rfl⟩ := map_shape (f := Pt.cells) fun q hq => shape_pt n (he q hq)
  exact ⟨l, rfl⟩
theorem shape_pps (n : Nat) {qs : List AV} (h : Shape Tryz.prog (n + 4) 41 qs) : ∃ l : List (List Pt), qs = [.sl (pps l)] := by
  unfold Shape at h
  rw [Tryz.underlying41] at h
  obtain ⟨es, rfl, _, he⟩ := h
  obtain ⟨l, rfl⟩ := map_shape (f := fun c : List Pt => [AV.sl (pts c)]) fun q hq => shape_pts n (he q hq)
  exact ⟨l, rfl⟩
theorem shape_sh (n : Nat) {qs : List AV} (h : Shape Tryz.prog (n + 5) 43 qs) : ∃ x : Sh, qs = x.cells := by
  unfold Shape at h
  rw [Tryz.underlying43] at h
  simp only [List.map_cons, List.map_nil, FieldsShape] at h
  obtain ⟨_, _, rfl, h0, _, _, rfl, h1, rfl⟩ := h
  obtain ⟨x0, rfl⟩ := shape_pts (n + 1) h0
  obtain ⟨x1, rfl⟩ := shape_pps (n + 0) h1
  exact ⟨⟨x0, x1⟩, rfl⟩
theorem shape_vec (n : Nat) {qs : List AV} (h : Shape Tryz.prog (n + 2) 45 qs) : ∃ a b c : Int, qs = [.v (.int .i64 a), .v (.int .i64 b), .v (.int .i64 c)] := by
  unfold Shape at h
  rw [Tryz.underlying45] at h
  simp only [List.map_cons, List.map_nil, FieldsShape] at h
  obtain ⟨_, _, rfl, h0, _, _, rfl, h1, _, _, rfl, h2, rfl⟩ := h
  unfold Shape at h0 h1 h2
  simp only [Tryz.underlying3, Tryz.underlying9, Tryz.underlying4] at h0 h1 h2
  obtain ⟨x0, rfl, _⟩ := h0
  obtain ⟨x1, rfl, _⟩ := h1
  obtain ⟨x2, rfl, _⟩ := h2
  exact ⟨x0, x1, x2, rfl⟩
theorem shape_place (n : Nat) {qs : List AV} (h : Shape Tryz.prog (n + 3) 47 qs) : ∃ a b c d : Int, qs = [.v (.int .i64 a), .v (.int .i64 b), .v (.int .i64 c), .v (.int .i64 d)] := by
  unfold Shape at h
  rw [Tryz.underlying47] at h
  simp only [List.map_cons, List.map_nil, FieldsShape] at h
  obtain ⟨_, _, rfl, h0, _, _, rfl, h1, rfl⟩ := h
  unfold Shape at h1
  simp only [Tryz.underlying3, Tryz.underlying9, Tryz.underlying4] at h1
  obtain ⟨x0a, x0b, x0c, rfl⟩ := shape_vec (n + 0) h0
  obtain ⟨x1, rfl, _⟩ := h1
  exact ⟨x0a, x0b, x0c, x1, rfl⟩
theorem shape_pa (n : Nat) {qs : List AV} (h : Shape Tryz.prog (n + 6) 49 qs) : ∃ x : Pa, qs = x.cells := by
  unfold Shape at h
  rw [Tryz.underlying49] at h
  simp only [List.map_cons, List.map_nil, FieldsShape] at h
  obtain ⟨_, _, rfl, h0, _, _, rfl, h1, _, _, rfl, h2, _, _, rfl, h3, _, _, rfl, h4, _, _, rfl, h5, _, _, rfl, h6, _, _, rfl, h7, _, _, rfl, h8, _, _, rfl, h9, _, _, rfl, h10, _, _, rfl, h11, rfl⟩ := h
  unfold Shape at h0 h1 h2 h3 h4 h5 h7 h8 h9
  simp only [Tryz.underlying3, Tryz.underlying9, Tryz.underlying4] at h0 h1 h2 h3 h4 h5 h7 h8 h9
  obtain ⟨x0, rfl, _⟩ := h0
  obtain ⟨x1, rfl, _⟩ := h1
  obtain ⟨x2, rfl, _⟩ := h2
  obtain ⟨x3, rfl, _⟩ := h3
  obtain ⟨x4, rfl, _⟩ := h4
  obtain ⟨x5, rfl, _⟩ := h5
  obtain ⟨x6, rfl⟩ := shape_sh (n + 0) h6
  obtain ⟨x7, rfl, _⟩ := h7
  obtain ⟨x8, rfl, _⟩ := h8
  obtain ⟨x9, rfl, _⟩ := h9
  obtain ⟨x10a, x10b, x10c, rfl⟩ := shape_vec (n + 3) h10
  obtain ⟨x11a, x11b, x11c, x11d, rfl⟩ := shape_place (n + 2) h11
  exact ⟨⟨x0, x1, x2, x3, x4, x5, x6, x7, x8, x9, x10a, x10b, x10c, x11a, x11b, x11c, x11d⟩, rfl⟩
theorem shape_pas (n : Nat) {qs : List AV} (h : Shape Tryz.prog (n + 7) 27 qs) : ∃ l : List Pa, qs = [.sl (pas l)] := by
  unfold Shape at h
  rw [Tryz.underlying27] at h
  obtain ⟨es, rfl, _, he⟩ := h
  obtain ⟨l, rfl⟩ := map_shape (f := Pa.cells) fun q hq => shape_pa n (he q hq)
  exact ⟨l, rfl⟩
theorem shape_spt (n : Nat) {qs : List AV} (h : Shape Tryz.prog (n + 3) 59 qs) : ∃ x : Spt, qs = x.cells := by
  unfold Shape at h
  rw [Tryz.underlying59] at h
  simp only [List.map_cons, List.map_nil, FieldsShape] at h
  obtain ⟨_, _, rfl, h0, _, _, rfl, h1, _, _, rfl, h2, _, _, rfl, h3, rfl⟩ := h
  unfold Shape at h0 h2 h3
  simp only [Tryz.underlying3, Tryz.underlying9, Tryz.underlying4] at h0 h2 h3
  obtain ⟨x0, rfl, _⟩ := h0
  obtain ⟨x1, rfl⟩ := shape_pt (n + 0) h1
  obtain ⟨x2, rfl, _⟩ := h2
  obtain ⟨x3, rfl⟩ := h3
  exact ⟨⟨x0, x1.x, x1.y, x2, x3⟩, rfl⟩
theorem shape_spts (n : Nat) {qs : List AV} (h : Shape Tryz.prog (n + 4) 24 qs) : ∃ l : List Spt, qs = [.sl (spts l)] := by
  unfold Shape at h
  rw [Tryz.underlying24] at h
  obtain ⟨es, rfl, _, he⟩ := h
  obtain ⟨l, rfl⟩ := map_shape (f := Spt.cells) fun q hq => shape_spt n (he q hq)
  exact ⟨l, rfl⟩
theorem shape_nest (n : Nat) {qs : List AV} (h : Shape Tryz.prog (n + 5) 26 qs) : ∃ (a : ByteArray) (b : Int) (l : List Spt), qs = [.v (.string a), .v (.int .i64 b), .sl (spts l)] := by
  unfold Shape at h
  rw [Tryz.underlying26] at h
  simp only [List.map_cons, List.map_nil, FieldsShape] at h
  obtain ⟨_, _, rfl, h0, _, _, rfl, h1, _, _, rfl, h2, rfl⟩ := h
  unfold Shape at h0 h1
  simp only [Tryz.underlying3, Tryz.underlying9, Tryz.underlying4] at h0 h1
  obtain ⟨x0, rfl, _⟩ := h0
  obtain ⟨x1, rfl, _⟩ := h1
  obtain ⟨x2, rfl⟩ := shape_spts (n + 0) h2
  exact ⟨x0, x1, x2, rfl⟩
theorem shape_she (n : Nat) {qs : List AV} (h : Shape Tryz.prog (n + 2) 23 qs) : ∃ x : She, qs = x.cells := by
  unfold Shape at h
  rw [Tryz.underlying23] at h
  simp only [List.map_cons, List.map_nil, FieldsShape] at h
  obtain ⟨_, _, rfl, h0, _, _, rfl, h1, _, _, rfl, h2, _, _, rfl, h3, _, _, rfl, h4, _, _, rfl, h5, rfl⟩ := h
  unfold Shape at h0 h1 h2 h3 h4 h5
  simp only [Tryz.underlying3, Tryz.underlying9, Tryz.underlying4] at h0 h1 h2 h3 h4 h5
  obtain ⟨x0, rfl, _⟩ := h0
  obtain ⟨x1, rfl, _⟩ := h1
  obtain ⟨x2, rfl, _⟩ := h2
  obtain ⟨x3, rfl, _⟩ := h3
  obtain ⟨x4, rfl, _⟩ := h4
  obtain ⟨x5, rfl, _⟩ := h5
  exact ⟨⟨x0, x1, x2, x3, x4, x5⟩, rfl⟩
theorem shape_cut (n : Nat) {qs : List AV} (h : Shape Tryz.prog (n + 8) 29 qs) : ∃ x : Cut, AV.agg qs = x.av := by
  unfold Shape at h
  rw [Tryz.underlying29] at h
  simp only [List.map_cons, List.map_nil, FieldsShape] at h
  obtain ⟨_, _, rfl, h0, _, _, rfl, h1, _, _, rfl, h2, _, _, rfl, h3, rfl⟩ := h
  unfold Shape at h3
  simp only [Tryz.underlying3, Tryz.underlying9, Tryz.underlying4] at h3
  obtain ⟨x0, rfl⟩ := shape_she (n + 5) h0
  obtain ⟨x1a, x1b, x1c, rfl⟩ := shape_nest (n + 2) h1
  obtain ⟨x2, rfl⟩ := shape_pas (n + 0) h2
  obtain ⟨x3, rfl, _⟩ := h3
  exact ⟨⟨x0, x1a, x1b, x1c, x2, x3⟩, rfl⟩
section
variable {H : Type} {enc : TypeId × Value → H} {w : World} {spare : Nat → Bool} {held : Bool} {r : Reach} {b0 : Nat} {v : Value} {d : DataW H} {p : List MemPlace}
theorem arg_cut (hval : Value.okWide Tryz.prog w r b0 29 v) (hd : DataW.Trod enc Tryz.prog w 0 spare held 29 v d p) : ∃ x : Cut, PureV (fun g => g < w.heap.size ∧ True) w x.av v := by
  obtain ⟨qs, hs, hp⟩ := arg_struct 8 Tryz.underlying29 (by kernel_rfl) hval hd
  obtain ⟨x, e⟩ := shape_cut 0 hs
  exact ⟨x, e ▸ hp⟩
open YtkgaiaapkcgdkaaGreat in
theorem bulk_all (l : List (DataW H)) (d : DataW H) (h : d ∈ l) : Rows.uptoBulk d ≤ Rows.uptoBulkAll l := by
  induction l with
  | nil => cases h
  | cons x l ih =>
    simp only [Rows.uptoBulkAll]
    cases List.mem_cons.1 h with
    | inl e => subst e; omega
    | inr e => have := ih e; omega
open YtkgaiaapkcgdkaaGreat in
theorem bulk_app (l m : List (DataW H)) : Rows.uptoBulkAll l ≤ Rows.uptoBulkAll (l ++ m) := by
  induction l with
  | nil => simp [Rows.uptoBulkAll]
  | cons x l ih => simp only [List.cons_append, Rows.uptoBulkAll]; omega
open YtkgaiaapkcgdkaaGreat in
theorem cut_bulk {st : Nat → Prop} {x : Cut} (hp : PureV st w x.av v) (hd : DataW.Trod enc Tryz.prog w 0 spare held 29 v d p) : x.sh.id.size ≤ Rows.uptoBulk d := by
  obtain ⟨fuel, h⟩ := hd
  unfold Cut.av at hp
  cases hp with
  | agg _ xs hl h1 hr =>
    obtain ⟨ys, n, _, hx, hlen, hl2, hf⟩ := DataW.trod_struct Tryz.underlying29 h
    have h0 := hf 0 _ rfl
    obtain ⟨y, hy⟩ : ∃ y, ys[0]? = some y := ⟨_, List.getElem?_eq_getElem (by rw [hl2]; decide)⟩
    rw [hy] at h0
    obtain ⟨zs, n2, _, hx2, hlen2, hl3, hf2⟩ := DataW.trod_struct Tryz.underlying23 h0
    have k0 := hf2 0 _ rfl
    obtain ⟨z, hz⟩ : ∃ z, zs[0]? = some z := ⟨_, List.getElem?_eq_getElem (by rw [hl3]; decide)⟩
    rw [hz] at k0
    obtain ⟨s, hs, hz', _⟩ := DataW.trod_string Tryz.underlying9 k0
    have hc : Tryz.prog.cellsOf 9 = 1 := by kernel_rfl
    have hc2 : Tryz.prog.cellsOf 23 = 6 := by kernel_rfl
    have hr0 := hr 0 (by simp)
    have e0 : cv xs 0 = .string s := by
      have hs' : ((((xs.drop 0).take 6).drop 0).take 1) = [Value.string s] := by
        rw [← hs]
        show _ = ((((Value.agg xs.toArray).cells.toList.drop 0).take (Tryz.prog.cellsOf 23)).drop 0).take (Tryz.prog.cellsOf 9)
        rw [hc, hc2]
        rfl
      cases xs with
      | nil => simp at hs'
      | cons z zs => simp at hs'; subst hs'; rfl
    rw [e0] at hr0
    have e1 : s = x.sh.id := by
      have hr1 : PureV st w (.v (.string x.sh.id)) (.string s) := hr0
      cases hr1
      rfl
    obtain ⟨rfl, -⟩ := Prod.mk.inj hx
    have hm : y.1 ∈ ys.map (·.1) := List.mem_map.2 ⟨y, List.mem_of_getElem? hy, rfl⟩
    have h2 := bulk_all _ _ hm
    have hm2 : z.1 ∈ zs.map (·.1) := List.mem_map.2 ⟨z, List.mem_of_getElem? hz, rfl⟩
    have h5 := bulk_all _ _ hm2
    have hy1 : y.1 = .agg (zs.map (·.1)) := by rw [hx2]
    rw [hy1] at h2
    rw [hz'] at h5
    have h3 : Rows.uptoBulk (DataW.lit (H := H) (.string s.data.toList)) = s.data.toList.length + 1 := by simp [Rows.uptoBulk]
    rw [h3] at h5
    simp only [Rows.uptoBulk] at h2 ⊢
    have h4 : s.data.toList.length = x.sh.id.size := by rw [← e1]; rfl
    omega
open YtkgaiaapkcgdkaaGreat in
theorem cut_small {st : Nat → Prop} {x : Cut} {gs : List (DataW H)} (hk : Rows.uptoSmall H ([d] ++ gs) = true) (hp : PureV st w x.av v)
    (hd : DataW.Trod enc Tryz.prog w 0 spare held 29 v d p) : x.sh.id.size < 9000000000000000000 := by
  have h1 := cut_bulk hp hd
  have h2 := bulk_app [d] gs
  have h3 := bulk_all [d] d (by simp)
  have h4 : Rows.uptoBulkAll ([d] ++ gs) ≤ 1048576 := by simpa [Rows.uptoSmall] using hk
  omega
end
/-- The settled world. -/
noncomputable def laidWorld (os : Os) : World := World.holding Tryz.prog os ⟨#[], #[], []⟩
end Go.Proofs
end
