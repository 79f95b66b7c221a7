import Derived.Test.YtpphgheahpiniaaPXE
import Derived.ProofKit
import Derived.OpenShut
import Derived.Test.YtpphgheahpiniaaRows
import Derived.WalkKit
import Derived.DataShut
import Derived.Deep.DeepHandedRow
import Derived.Lib.LaidTab
section
set_option linter.unusedVariables false
set_option linter.unusedSimpArgs false
namespace Go.Proofs
open Go Go.Ab
set_option maxHeartbeats 8000000
set_option maxRecDepth 100000
set_option linter.unusedSimpArgs false
set_option linter.unusedVariables false
attribute [local irreducible] Awp aops aopsL Go.Ab.Pure PureOwn

def nxA (t e : Int) (s : Sp) : Int := if (decide (t < s.a) && decide (s.a < e)) = true then s.a else e
def nxB (t e : Int) (s : Sp) : Int := if (decide (t < s.b) && decide (s.b < e)) = true then s.b else e
def nxS (t e : Int) (s : Sp) : Int := nxB t (nxA t e s) s
def nextE (B : List Sp) (t e : Int) : Int := B.foldl (nxS t) e
theorem nextE_app (A B : List Sp) (t e : Int) : nextE (A ++ B) t e = nextE B t (nextE A t e) := List.foldl_append
theorem nxS_spec (t e : Int) (s : Sp) (h : t < e) : nxS t e s ≤ e ∧ t < nxS t e s ∧ ¬ (t < s.a ∧ s.a < nxS t e s) ∧ ¬ (t < s.b ∧ s.b < nxS t e s) := by
  unfold nxS nxB nxA
  simp only [Bool.and_eq_true, decide_eq_true_eq]
  repeat' split
  all_goals omega
theorem nextE_spec : ∀ (B : List Sp) (t e : Int), t < e → nextE B t e ≤ e ∧ t < nextE B t e ∧ ∀ s ∈ B, ¬ (t < s.a ∧ s.a < nextE B t e) ∧ ¬ (t < s.b ∧ s.b < nextE B t e)
  | [], t, e, h => ⟨Int.le_refl _, h, by simp⟩
  | x :: B, t, e, h => by
    have h1 := nxS_spec t e x h
    have h2 := nextE_spec B t (nxS t e x) h1.2.1
    have e1 : nextE (x :: B) t e = nextE B t (nxS t e x) := rfl
    rw [e1]
    refine ⟨by omega, h2.2.1, fun s hs => ?_⟩
    rcases List.mem_cons.1 hs with rfl | hs
    · omega
    · exact h2.2.2 s hs
theorem next_has {B : List Sp} {t e n : Int} (h : t < e) (h1 : t ≤ n) (h2 : n < nextE B t e) : hasS B n ↔ hasS B t := by
  have hs := (nextE_spec B t e h).2.2
  unfold hasS
  constructor
  · rintro ⟨s, hm, h3, h4⟩
    have := hs s hm
    exact ⟨s, hm, by omega, by omega⟩
  · rintro ⟨s, hm, h3, h4⟩
    have := hs s hm
    exact ⟨s, hm, by omega, by omega⟩
def upto (a t : Int) (B : List Sp) : List Sp := minusL [⟨a, t⟩] B
theorem upto_has (a t : Int) (B : List Sp) (n : Int) : hasS (upto a t B) n ↔ (a ≤ n ∧ n < t) ∧ ¬ hasS B n := by
  unfold upto
  rw [(minus_is _ _).2 n, hasS_single]
theorem upto_canon (a t : Int) (B : List Sp) : Canon (upto a t B) := (minus_is _ _).1
theorem upto_end {a t : Int} {B : List Sp} : ∀ s ∈ upto a t B, s.b ≤ t := by
  intro s hs
  have h1 := (upto_canon a t B).2 s hs
  have h2 : hasS (upto a t B) (s.b - 1) := ⟨s, hs, by omega, by omega⟩
  rw [upto_has] at h2
  omega
theorem upto_nil {a t : Int} {B : List Sp} (h : t ≤ a) : upto a t B = [] := by
  refine canon_ext (upto_canon a t B) canon_nil fun n => ?_
  rw [upto_has]
  constructor
  · rintro ⟨h1, _⟩; omega
  · intro h; exact absurd h (hasS_nil n)
theorem upto_in {a t e : Int} {B : List Sp} (ha : a ≤ t) (h : t < e) (hb : hasS B t) : upto a (nextE B t e) B = upto a t B := by
  have hr := nextE_spec B t e h
  refine canon_ext (upto_canon _ _ B) (upto_canon _ _ B) fun n => ?_
  rw [upto_has, upto_has]
  constructor
  · rintro ⟨h1, h2⟩
    refine ⟨⟨h1.1, ?_⟩, h2⟩
    by_cases hn : n < t
    · exact hn
    · exact absurd ((next_has h (by omega) h1.2).2 hb) h2
  · rintro ⟨h1, h2⟩
    exact ⟨⟨h1.1, by omega⟩, h2⟩
theorem upto_out {a t e : Int} {B : List Sp} (ha : a ≤ t) (h : t < e) (hb : ¬ hasS B t) (n : Int) : hasS (upto a (nextE B t e) B) n ↔ hasS (upto a t B) n ∨ (t ≤ n ∧ n < nextE B t e) := by
  have hr := nextE_spec B t e h
  rw [upto_has, upto_has]
  constructor
  · rintro ⟨h1, h2⟩
    by_cases hn : n < t
    · exact .inl ⟨⟨h1.1, hn⟩, h2⟩
    · exact .inr ⟨by omega, h1.2⟩
  · rintro (⟨h1, h2⟩ | h1)
    · exact ⟨⟨h1.1, by omega⟩, h2⟩
    · refine ⟨by omega, fun hn => hb ((next_has h h1.1 h1.2).1 hn)⟩
theorem upto_new {a t e : Int} {B : List Sp} (ha : a ≤ t) (h : t < e) (hb : ¬ hasS B t) (hl : ∀ s ∈ upto a t B, s.b ≠ t) : upto a (nextE B t e) B = upto a t B ++ [⟨t, nextE B t e⟩] := by
  have hr := nextE_spec B t e h
  refine canon_ext (upto_canon _ _ B) ?_ fun n => ?_
  · rw [canon_snoc]
    refine ⟨upto_canon a t B, fun s hs => ?_, hr.2.1⟩
    have h1 := upto_end s hs
    have h2 := hl s hs
    show s.b < t
    omega
  · rw [upto_out ha h hb, hasS_append, hasS_single]
theorem upto_grow {a t e : Int} {B O : List Sp} {y : Sp} (ha : a ≤ t) (h : t < e) (hb : ¬ hasS B t) (he : upto a t B = O ++ [y]) (hy : y.b = t) : upto a (nextE B t e) B = O ++ [⟨y.a, nextE B t e⟩] := by
  have hr := nextE_spec B t e h
  have hc := upto_canon a t B
  rw [he, canon_snoc] at hc
  refine canon_ext (upto_canon _ _ B) ?_ fun n => ?_
  · rw [canon_snoc]
    exact ⟨hc.1, hc.2.1, by show y.a < nextE B t e; omega⟩
  · rw [upto_out ha h hb, he, hasS_append, hasS_append, hasS_single, hasS_single]
    have := hc.2.2
    constructor
    · rintro ((h1 | h1) | h1)
      · exact .inl h1
      · exact .inr ⟨h1.1, by show n < nextE B t e; omega⟩
      · exact .inr ⟨by show y.a ≤ n; omega, h1.2⟩
    · rintro (h1 | h1)
      · exact .inl (.inl h1)
      · have h2 : y.a ≤ n ∧ n < nextE B t e := h1
        by_cases hn : n < t
        · exact .inl (.inr ⟨h2.1, by omega⟩)
        · exact .inr ⟨by omega, h2.2⟩
theorem hasQ_has (p : ByteArray) (t : Int) (l : List Sk) : hasB (busyS p l) t = l.any (hasQ p t) := by
  unfold hasB busyS
  rw [List.any_map, List.any_filter]
  congr 1
  funext s
  simp only [Function.comp, forP, hasQ, spOf, Bool.and_assoc]
  rfl
theorem pick_has (l : List Wl) (p : ByteArray) (t : Int) : hasB (busyL l p) t = pickB l p t := by
  unfold pickB busyL
  unfold hasB
  rw [List.any_flatMap]
  congr 1
  funext q
  exact hasQ_has p t q.sk
theorem next_ok (l : List Wl) (p : ByteArray) (t e : Int) (hl : l.length ≤ 40) (hsk : ∀ i, i < l.length → (l.getD i zeroWl).sk.length ≤ 40) : Pure Try.prog 40 [.sl (wls l), .v (.string p), .v (.int .i64 t), .v (.int .i64 e)] (.v (.int .i64 (nextE (busyL l p) t e))) := by
  refine fn_pure Try.F40 (Nat.le_of_ble_eq_true rfl) ?_; unfold Try.ac40
  repeat' (first
    | (apply Awp.sreg; (case hn => (simp only [List.length_cons, List.length_nil, Nat.reduceAdd] <;> rfl)))
    | (refine st_nil ?_)
    | (apply st_a; (case hc => rfl); (case he => (simp only [go_sem, *] <;> rfl)); (case hu => (simp only [updL_nil, updL_cons] <;> rfl)); (case hp => first | trivial))
    | refine Awp.block ?_
    | refine Awp.seq ?_)
  refine Awp.loop (fun i : Nat => i ≤ l.length) 50 (fun i => mkS [(0, .sl (wls l)), (1, .v (.string p)), (2, .v (.int .i64 t)), (3, .v (.int .i64 (nextE (busyL (l.take i) p) t e))), (9, .v (.int .i64 i))] []) (fun i => l.length - i) 0 (by omega) ?_ ?_
  · have e1 : nextE (busyL (l.take 0) p) t e = e := rfl
    rw [e1]
    (apply Ghost.mk [] []; (case hdead => rfl); (case hinj => rfl); (case hV => (simp only [go_sem, *]) <;> (repeat' (first | exact View.int (by first | rfl | omega | (simp; done) | (rw [wrap_i64] <;> (try simp only [Int.natCast_add]) <;> omega) | (simp [*]; done))))); (case hB => (simp only [go_sem, *]) <;> (repeat' (first | skip; done))))
  · intro i hi
    by_cases hlt : i < l.length
    · have hlt' : (i : Int) < l.length := by omega
      have hat := wls_at l i hlt
      have hz : ((l.getD i zeroWl).cells).length = 2 := rfl
      have hst : nextE (busyL (l.take (i + 1)) p) t e = nextE (busyS p (l.getD i zeroWl).sk) t (nextE (busyL (l.take i) p) t e) := by
        rw [busyL_step l p i hlt, nextE_app]
      have hqs := hsk i hlt
      clear hsk
      obtain ⟨q, hq⟩ : ∃ q, l.getD i zeroWl = q := ⟨_, rfl⟩
      rw [hq] at hat hz hst hqs
      generalize nextE (busyL (l.take i) p) t e = E at *
      repeat' (first
    | (apply Awp.sreg; (case hn => (simp only [List.length_cons, List.length_nil, Nat.reduceAdd] <;> rfl)))
    | (refine st_nil ?_)
    | (apply st_a; (case hc => rfl); (case he => (simp only [go_sem, *] <;> rfl)); (case hu => (simp only [updL_nil, updL_cons] <;> rfl)); (case hp => first | trivial))
    | (refine Awp.skip ?_; try simp only [go_sem, *])
    | refine Awp.block ?_
    | (apply Awp.cond; (case hc => (simp only [go_sem, *] <;> rfl)); all_goals (intro hg; (try simp only [Bool.not_true, Bool.not_false, reduceCtorEq] at hg)))
    | refine Awp.seq ?_)
      refine Awp.loop (fun k : Nat => k ≤ q.sk.length) 80 (fun k => mkS [(0, .sl (wls l)), (1, .v (.string p)), (2, .v (.int .i64 t)), (3, .v (.int .i64 (nextE (busyS p (q.sk.take k)) t E))), (9, .v (.int .i64 i)), (10, .v (.int .i64 k))] []) (fun k => q.sk.length - k) 0 (by omega) ?_ ?_
      · have e1 : nextE (busyS p (q.sk.take 0)) t E = E := rfl
        rw [e1]
        (apply Ghost.mk [] []; (case hdead => rfl); (case hinj => rfl); (case hV => (simp only [go_sem, *]) <;> (repeat' (first | exact View.int (by first | rfl | omega | (simp; done) | (rw [wrap_i64] <;> (try simp only [Int.natCast_add]) <;> omega) | (simp [*]; done))))); (case hB => (simp only [go_sem, *]) <;> (repeat' (first | skip; done))))
      · intro k hk
        by_cases hkl : k < q.sk.length
        · have hkl' : (k : Int) < q.sk.length := by omega
          have hatk := sks_at q.sk k hkl
          have hzk : ((q.sk.getD k zeroSk).cells).length = 3 := rfl
          have hstk := busyS_step p q.sk k hkl
          generalize q.sk.getD k zeroSk = x at *
          cases hB : forP p x
          · rw [hB] at hstk
            simp only [Bool.false_eq_true, if_false, List.append_nil] at hstk
            have hstk2 : nextE (busyS p (q.sk.take (k + 1))) t E = nextE (busyS p (q.sk.take k)) t E := by rw [hstk]
            clear hstk
            generalize nextE (busyS p (q.sk.take k)) t E = F at *
            unfold forP at hB
            repeat' (first
    | (apply Awp.sreg; (case hn => (simp only [List.length_cons, List.length_nil, Nat.reduceAdd] <;> rfl)))
    | (refine st_nil ?_)
    | (apply st_a; (case hc => rfl); (case he => (simp only [go_sem, *] <;> rfl)); (case hu => (simp only [updL_nil, updL_cons] <;> rfl)); (case hp => first | trivial | omega))
    | (apply st_m; (case hc => rfl); (case hg => (simp only [go_sem, *] <;> rfl)); (case he => (intro hQz; (try simp only [wantB_t, wantB_f, Bool.and_eq_true, Bool.not_eq_true', Bool.not_true, Bool.not_false, and_true, true_and] at hQz); simp only [go_sem, *] <;> rfl)); (case hp => (intro hQz; (try simp only [wantB_t, wantB_f, Bool.and_eq_true, Bool.not_eq_true', Bool.or_eq_false_iff, decide_eq_true_eq, decide_eq_false_iff_not, beq_iff_eq, beq_eq_false_iff_ne, bne_iff_ne, bne_eq_false_iff_eq, Int.not_lt, Int.not_le, Int.ofNat_lt, Int.ofNat_le] at hQz); first | trivial)))
    | (apply Awp.reg; (case hn => (simp only [List.length_cons, List.length_nil, Nat.reduceAdd] <;> rfl)))
    | (refine Awp.skip ?_; try simp only [go_sem, *])
    | refine Awp.block ?_
    | (apply Awp.cond; (case hc => (simp only [go_sem, *] <;> rfl)); all_goals (intro hg; (try simp only [Bool.not_true, Bool.not_false, reduceCtorEq] at hg)))
    | refine Awp.seq ?_)
            refine ⟨k + 1, by omega, by omega, ?_⟩
            (apply Ghost.mk [] []; (case hdead => rfl); (case hinj => rfl); (case hV => (simp only [go_sem, *]) <;> (repeat' (first | exact View.int (by first | rfl | omega | (simp; done) | (rw [wrap_i64] <;> (try simp only [Int.natCast_add]) <;> omega) | (simp [*]; done))))); (case hB => (simp only [go_sem, *]) <;> (repeat' (first | skip; done))))
          · rw [hB] at hstk
            simp only [if_true] at hstk
            have hstk2 : nextE (busyS p (q.sk.take (k + 1))) t E = nxB t (nxA t (nextE (busyS p (q.sk.take k)) t E) (spOf x)) (spOf x) := by rw [hstk, nextE_app]; rfl
            clear hstk
            generalize nextE (busyS p (q.sk.take k)) t E = F at *
            unfold forP at hB
            cases h1 : (decide (t < x.a) && decide (x.a < F))
            · have e1 : nxA t F (spOf x) = F := by unfold nxA spOf; rw [h1]; rfl
              rw [e1] at hstk2
              cases h2 : (decide (t < x.b) && decide (x.b < F))
              · have e2 : nxB t F (spOf x) = F := by unfold nxB spOf; rw [h2]; rfl
                rw [e2] at hstk2
                clear e1 e2
                repeat' (first
    | (apply Awp.sreg; (case hn => (simp only [List.length_cons, List.length_nil, Nat.reduceAdd] <;> rfl)))
    | (refine st_nil ?_)
    | (apply st_a; (case hc => rfl); (case he => (simp only [go_sem, *] <;> rfl)); (case hu => (simp only [updL_nil, updL_cons] <;> rfl)); (case hp => first | trivial | omega))
    | (apply st_m; (case hc => rfl); (case hg => (simp only [go_sem, *] <;> rfl)); (case he => (intro hQz; (try simp only [wantB_t, wantB_f, Bool.and_eq_true, Bool.not_eq_true', Bool.not_true, Bool.not_false, and_true, true_and] at hQz); simp only [go_sem, *] <;> rfl)); (case hp => (intro hQz; (try simp only [wantB_t, wantB_f, Bool.and_eq_true, Bool.not_eq_true', Bool.or_eq_false_iff, decide_eq_true_eq, decide_eq_false_iff_not, beq_iff_eq, beq_eq_false_iff_ne, bne_iff_ne, bne_eq_false_iff_eq, Int.not_lt, Int.not_le, Int.ofNat_lt, Int.ofNat_le] at hQz); first | trivial)))
    | (apply Awp.reg; (case hn => (simp only [List.length_cons, List.length_nil, Nat.reduceAdd] <;> rfl)))
    | (refine Awp.skip ?_; try simp only [go_sem, *])
    | refine Awp.block ?_
    | (apply Awp.cond; (case hc => (simp only [go_sem, *] <;> rfl)); all_goals (intro hg; (try simp only [Bool.not_true, Bool.not_false, reduceCtorEq] at hg)))
    | refine Awp.seq ?_)
                refine ⟨k + 1, by omega, by omega, ?_⟩
                (apply Ghost.mk [] []; (case hdead => rfl); (case hinj => rfl); (case hV => (simp only [go_sem, *]) <;> (repeat' (first | exact View.int (by first | rfl | omega | (simp; done) | (rw [wrap_i64] <;> (try simp only [Int.natCast_add]) <;> omega) | (simp [*]; done))))); (case hB => (simp only [go_sem, *]) <;> (repeat' (first | skip; done))))
              · have e2 : nxB t F (spOf x) = x.b := by unfold nxB spOf; rw [h2]; rfl
                rw [e2] at hstk2
                clear e1 e2
                repeat' (first
    | (apply Awp.sreg; (case hn => (simp only [List.length_cons, List.length_nil, Nat.reduceAdd] <;> rfl)))
    | (refine st_nil ?_)
    | (apply st_a; (case hc => rfl); (case he => (simp only [go_sem, *] <;> rfl)); (case hu => (simp only [updL_nil, updL_cons] <;> rfl)); (case hp => first | trivial | omega))
    | (apply st_m; (case hc => rfl); (case hg => (simp only [go_sem, *] <;> rfl)); (case he => (intro hQz; (try simp only [wantB_t, wantB_f, Bool.and_eq_true, Bool.not_eq_true', Bool.not_true, Bool.not_false, and_true, true_and] at hQz); simp only [go_sem, *] <;> rfl)); (case hp => (intro hQz; (try simp only [wantB_t, wantB_f, Bool.and_eq_true, Bool.not_eq_true', Bool.or_eq_false_iff, decide_eq_true_eq, decide_eq_false_iff_not, beq_iff_eq, beq_eq_false_iff_ne, bne_iff_ne, bne_eq_false_iff_eq, Int.not_lt, Int.not_le, Int.ofNat_lt, Int.ofNat_le] at hQz); first | trivial)))
    | (apply Awp.reg; (case hn => (simp only [List.length_cons, List.length_nil, Nat.reduceAdd] <;> rfl)))
    | (refine Awp.skip ?_; try simp only [go_sem, *])
    | refine Awp.block ?_
    | (apply Awp.cond; (case hc => (simp only [go_sem, *] <;> rfl)); all_goals (intro hg; (try simp only [Bool.not_true, Bool.not_false, reduceCtorEq] at hg)))
    | refine Awp.seq ?_)
                refine ⟨k + 1, by omega, by omega, ?_⟩
                (apply Ghost.mk [] []; (case hdead => rfl); (case hinj => rfl); (case hV => (simp only [go_sem, *]) <;> (repeat' (first | exact View.int (by first | rfl | omega | (simp; done) | (rw [wrap_i64] <;> (try simp only [Int.natCast_add]) <;> omega) | (simp [*]; done))))); (case hB => (simp only [go_sem, *]) <;> (repeat' (first | skip; done))))
            · have e1 : nxA t F (spOf x) = x.a := by unfold nxA spOf; rw [h1]; rfl
              rw [e1] at hstk2
              cases h2 : (decide (t < x.b) && decide (x.b < x.a))
              · have e2 : nxB t x.a (spOf x) = x.a := by unfold nxB spOf; rw [h2]; rfl
                rw [e2] at hstk2
                clear e1 e2
                repeat' (first
    | (apply Awp.sreg; (case hn => (simp only [List.length_cons, List.length_nil, Nat.reduceAdd] <;> rfl)))
    | (refine st_nil ?_)
    | (apply st_a; (case hc => rfl); (case he => (simp only [go_sem, *] <;> rfl)); (case hu => (simp only [updL_nil, updL_cons] <;> rfl)); (case hp => first | trivial | omega))
    | (apply st_m; (case hc => rfl); (case hg => (simp only [go_sem, *] <;> rfl)); (case he => (intro hQz; (try simp only [wantB_t, wantB_f, Bool.and_eq_true, Bool.not_eq_true', Bool.not_true, Bool.not_false, and_true, true_and] at hQz); simp only [go_sem, *] <;> rfl)); (case hp => (intro hQz; (try simp only [wantB_t, wantB_f, Bool.and_eq_true, Bool.not_eq_true', Bool.or_eq_false_iff, decide_eq_true_eq, decide_eq_false_iff_not, beq_iff_eq, beq_eq_false_iff_ne, bne_iff_ne, bne_eq_false_iff_eq, Int.not_lt, Int.not_le, Int.ofNat_lt, Int.ofNat_le] at hQz); first | trivial)))
    | (apply Awp.reg; (case hn => (simp only [List.length_cons, List.length_nil, Nat.reduceAdd] <;> rfl)))
    | (refine Awp.skip ?_; try simp only [go_sem, *])
    | refine Awp.block ?_
    | (apply Awp.cond; (case hc => (simp only [go_sem, *] <;> rfl)); all_goals (intro hg; (try simp only [Bool.not_true, Bool.not_false, reduceCtorEq] at hg)))
    | refine Awp.seq ?_)
                refine ⟨k + 1, by omega, by omega, ?_⟩
                (apply Ghost.mk [] []; (case hdead => rfl); (case hinj => rfl); (case hV => (simp only [go_sem, *]) <;> (repeat' (first | exact View.int (by first | rfl | omega | (simp; done) | (rw [wrap_i64] <;> (try simp only [Int.natCast_add]) <;> omega) | (simp [*]; done))))); (case hB => (simp only [go_sem, *]) <;> (repeat' (first | skip; done))))
              · have e2 : nxB t x.a (spOf x) = x.b := by unfold nxB spOf; rw [h2]; rfl
                rw [e2] at hstk2
                clear e1 e2
                repeat' (first
    | (apply Awp.sreg; (case hn => (simp only [List.length_cons, List.length_nil, Nat.reduceAdd] <;> rfl)))
    | (refine st_nil ?_)
    | (apply st_a; (case hc => rfl); (case he => (simp only [go_sem, *] <;> rfl)); (case hu => (simp only [updL_nil, updL_cons] <;> rfl)); (case hp => first | trivial | omega))
    | (apply st_m; (case hc => rfl); (case hg => (simp only [go_sem, *] <;> rfl)); (case he => (intro hQz; (try simp only [wantB_t, wantB_f, Bool.and_eq_true, Bool.not_eq_true', Bool.not_true, Bool.not_false, and_true, true_and] at hQz); simp only [go_sem, *] <;> rfl)); (case hp => (intro hQz; (try simp only [wantB_t, wantB_f, Bool.and_eq_true, Bool.not_eq_true', Bool.or_eq_false_iff, decide_eq_true_eq, decide_eq_false_iff_not, beq_iff_eq, beq_eq_false_iff_ne, bne_iff_ne, bne_eq_false_iff_eq, Int.not_lt, Int.not_le, Int.ofNat_lt, Int.ofNat_le] at hQz); first | trivial)))
    | (apply Awp.reg; (case hn => (simp only [List.length_cons, List.length_nil, Nat.reduceAdd] <;> rfl)))
    | (refine Awp.skip ?_; try simp only [go_sem, *])
    | refine Awp.block ?_
    | (apply Awp.cond; (case hc => (simp only [go_sem, *] <;> rfl)); all_goals (intro hg; (try simp only [Bool.not_true, Bool.not_false, reduceCtorEq] at hg)))
    | refine Awp.seq ?_)
                refine ⟨k + 1, by omega, by omega, ?_⟩
                (apply Ghost.mk [] []; (case hdead => rfl); (case hinj => rfl); (case hV => (simp only [go_sem, *]) <;> (repeat' (first | exact View.int (by first | rfl | omega | (simp; done) | (rw [wrap_i64] <;> (try simp only [Int.natCast_add]) <;> omega) | (simp [*]; done))))); (case hB => (simp only [go_sem, *]) <;> (repeat' (first | skip; done))))
        · have hkl' : ¬ (k : Int) < q.sk.length := by omega
          have e1 : q.sk.take k = q.sk := List.take_of_length_le (by omega)
          rw [e1, ← hst]
          repeat' (first
    | (apply Awp.sreg; (case hn => (simp only [List.length_cons, List.length_nil, Nat.reduceAdd] <;> rfl)))
    | (refine st_nil ?_)
    | (apply st_a; (case hc => rfl); (case he => (simp only [go_sem, *] <;> rfl)); (case hu => (simp only [updL_nil, updL_cons] <;> rfl)); (case hp => first | trivial | omega))
    | (apply Awp.reg; (case hn => (simp only [List.length_cons, List.length_nil, Nat.reduceAdd] <;> rfl)))
    | (refine Awp.exit ?_; try simp only [go_sem, *])
    | (apply Awp.cond; (case hc => (simp only [go_sem, *] <;> rfl)); all_goals (intro hg; (try simp only [Bool.not_true, Bool.not_false, reduceCtorEq] at hg)))
    | refine Awp.seq ?_)
          refine ⟨i + 1, by omega, by omega, ?_⟩
          (apply Ghost.mk [] []; (case hdead => rfl); (case hinj => rfl); (case hV => (simp only [go_sem, *]) <;> (repeat' (first | exact View.int (by first | rfl | omega | (simp; done) | (rw [wrap_i64] <;> (try simp only [Int.natCast_add]) <;> omega) | (simp [*]; done))))); (case hB => (simp only [go_sem, *]) <;> (repeat' (first | skip; done))))
    · have hlt' : ¬ (i : Int) < l.length := by omega
      have e1 : l.take i = l := List.take_of_length_le (by omega)
      rw [e1]
      clear hsk
      repeat' (first
    | (apply Awp.sreg; (case hn => (simp only [List.length_cons, List.length_nil, Nat.reduceAdd] <;> rfl)))
    | (refine st_nil ?_)
    | (apply st_a; (case hc => rfl); (case he => (simp only [go_sem, *] <;> rfl)); (case hu => (simp only [updL_nil, updL_cons] <;> rfl)); (case hp => first | trivial))
    | (refine Awp.ret ?_; try simp only [go_sem, *])
    | (refine Awp.exit ?_; try simp only [go_sem, *])
    | (apply Awp.cond; (case hc => (simp only [go_sem, *] <;> rfl)); all_goals (intro hg; (try simp only [Bool.not_true, Bool.not_false, reduceCtorEq] at hg)))
    | refine Awp.seq ?_)
      all_goals repeat' (first | exact Lower.int (by first | rfl | (simp only [true_and, Bool.true_and, Bool.false_and, Bool.and_true, Bool.and_false, Bool.true_or, Bool.false_or, reduceIte, Bool.false_eq_true, *]; done) | (simp only [true_and, reduceIte, Bool.false_eq_true, *] <;> rfl) | (simp [true_and]; done) | (simp_all [true_and]; done) | omega))
theorem rlapses_ok (l : List Wl) (p : ByteArray) (w : Sp) (hl : l.length ≤ 40) (hsk : ∀ i, i < l.length → (l.getD i zeroWl).sk.length ≤ 40) : PureOwn Try.prog 25 [.sl (wls l), .v (.string p), w.av] (sps (lapE l p w)) 2 37 := by
  have hBl := busyL_len p l (get_all hsk)
  have hBl2 : (busyL l p).length ≤ 1600 := by omega
  clear hBl
  have hML : ∀ t, (upto w.a t (busyL l p)).length ≤ 1700 := fun t => by
    have h1 := minus_len [⟨w.a, t⟩] (busyL l p)
    unfold upto
    simp only [List.length_cons, List.length_nil] at h1
    omega
  have hsk' : ∀ i, i < l.length → (l.getD i zeroWl).sk.length < 1000000 := fun i hi => by have := hsk i hi; omega
  have ef : lapE l p w = upto w.a w.b (busyL l p) := rfl
  rw [ef]
  refine fn_own Try.F25 (Nat.le_of_ble_eq_true rfl) ?_; unfold Try.ac25
  repeat' (first
    | (apply Awp.sreg; (case hn => (simp only [List.length_cons, List.length_nil, Nat.reduceAdd] <;> rfl)))
    | (refine st_nil ?_)
    | (apply st_a; (case hc => rfl); (case he => (simp only [go_sem, *] <;> rfl)); (case hu => (simp only [updL_nil, updL_cons] <;> rfl)); (case hp => first | trivial))
    | refine Awp.block ?_
    | refine Awp.seq ?_)
  refine Awp.loop (fun t : Int => w.a ≤ t ∧ (t = w.a ∨ t ≤ w.b)) 50 (fun t => mkS [(0, .sl (wls l)), (1, .v (.string p)), (5, .bp 0 0), (7, .own 1), (8, .v (.int .i64 t))] [(0, .box w.cells), (1, .row (sps (upto w.a t (busyL l p))) 2 37)]) (fun t => (w.b - t).toNat) w.a (by omega) ?_ ?_
  · refine Ghost.trans (Ghost.name 7 2 37 rfl (by decide)) ?_
    rw [upto_nil (Int.le_refl _)]
    clear hsk hsk' hML
    (apply Ghost.mk [(1, 6)] []; (case hdead => rfl); (case hinj => rfl); (case hV => (simp only [go_sem, *]) <;> (repeat' (first | refine And.intro ?_ ?_ | exact .bp rfl (by decide) | exact .own rfl (by decide)))); (case hB => (simp only [go_sem, *]) <;> (repeat' (first | refine And.intro ?_ ?_ | exact ⟨_, rfl, BView.boxF rfl⟩ | exact ⟨_, rfl, .rowE (by first | rfl | omega | (simp; done) | (rw [wrap_i64] <;> (try simp only [Int.natCast_add]) <;> omega) | (simp [*]; done))⟩))))
  · intro t ⟨hta, hto⟩
    by_cases hlt : t < w.b
    · have c0 := next_ok l p t w.b hl hsk
      have c1 := rpick_ok l p t (by omega) hsk'
      have hr := nextE_spec (busyL l p) t w.b hlt
      have hM := hML t
      have hro : w.a ≤ nextE (busyL l p) t w.b ∧ (nextE (busyL l p) t w.b = w.a ∨ nextE (busyL l p) t w.b ≤ w.b) := by omega
      have hrm : (w.b - nextE (busyL l p) t w.b).toNat < (w.b - t).toNat := by omega
      cases hp : pickB l p t
      · have hnb : ¬ hasS (busyL l p) t := by rw [← hasB_iff, pick_has, hp]; simp
        have hgr := fun O y => upto_grow (O := O) (y := y) hta hlt hnb
        have hnw := upto_new hta hlt hnb
        have hue := upto_end (a := w.a) (t := t) (B := busyL l p)
        rw [hp] at c1
        obtain ⟨r, hre⟩ : ∃ r, nextE (busyL l p) t w.b = r := ⟨_, rfl⟩
        rw [hre] at hr hgr hnw c0 hro hrm
        obtain ⟨N, hN⟩ : ∃ N, upto w.a r (busyL l p) = N := ⟨_, rfl⟩
        rw [hN] at hgr hnw
        obtain ⟨M, hMe⟩ : ∃ M, upto w.a t (busyL l p) = M := ⟨_, rfl⟩
        have hcan := upto_canon w.a t (busyL l p)
        rw [hMe] at hgr hnw hM hue hcan ⊢
        generalize pickN l p t = nm at *
        clear hsk hsk' hML ef hnb hp hre hMe hto
        have esn := sps_snoc M ⟨t, r⟩
        have eon := sps_one M
        have hMn := sps_len M
        have hw1 : IntKind.i64.wrap ((M.length : Int) - 1) = (M.length : Int) - 1 := wrap_i64 (by omega) (by omega)
        by_cases hM0 : M.length = 0
        · have hn : decide ((0 : Int) < (M.length : Int)) = false := decide_eq_false (by omega)
          have hNe := hnw (by rw [List.length_eq_zero_iff.1 hM0]; simp)
          clear hgr hnw hue hr hM0 hcan
          repeat' (first
    | (apply Awp.sreg; (case hn => (simp only [List.length_cons, List.length_nil, Nat.reduceAdd] <;> rfl)))
    | (refine st_nil ?_)
    | (apply st_a; (case hc => rfl); (case he => (simp only [go_sem, *] <;> rfl)); (case hu => (simp only [updL_nil, updL_cons] <;> rfl)); (case hp => first | trivial | (simp; done) | (simp; omega)))
    | (apply st_m; (case hc => rfl); (case hg => (simp only [go_sem, *] <;> rfl)); (case he => (intro hQz; (try simp only [wantB_t, wantB_f, Bool.and_eq_true, Bool.not_eq_true', Bool.not_true, Bool.not_false, and_true, true_and] at hQz); simp only [go_sem, *] <;> rfl)); (case hp => (intro hQz; (try simp only [wantB_t, wantB_f, Bool.and_eq_true, Bool.not_eq_true', Bool.or_eq_false_iff, decide_eq_true_eq, decide_eq_false_iff_not, beq_iff_eq, beq_eq_false_iff_ne, bne_iff_ne, bne_eq_false_iff_eq, Int.not_lt, Int.not_le, Int.ofNat_lt, Int.ofNat_le] at hQz); first | trivial)))
    | (apply st_c; (case hc => (simp only [go_sem, *] <;> rfl)); (case hl => (simp only [go_sem, *] <;> rfl)); (case hn => (simp only [go_sem, *] <;> rfl)); (case hp => first | exact c0 | (have hXz := c0; simp only [go_sem, *] at hXz; exact hXz)))
    | (apply st_c; (case hc => (simp only [go_sem, *] <;> rfl)); (case hl => (simp only [go_sem, *] <;> rfl)); (case hn => (simp only [go_sem, *] <;> rfl)); (case hp => first | exact c1 | (have hXz := c1; simp only [go_sem, *] at hXz; exact hXz)))
    | (apply Awp.reg; (case hn => (simp only [List.length_cons, List.length_nil, Nat.reduceAdd] <;> rfl)))
    | (refine Awp.skip ?_; try simp only [go_sem, *])
    | refine Awp.block ?_
    | (apply Awp.cond; (case hc => (simp only [go_sem, *] <;> rfl)); all_goals (intro hg; (try simp only [Bool.not_true, Bool.not_false, reduceCtorEq] at hg)))
    | refine Awp.seq ?_)
          all_goals (refine ⟨r, hro, hrm, ?_⟩; rw [hN, hNe]; clear hro hrm c0 c1; (apply Ghost.mk [(1, 90)] []; (case hdead => rfl); (case hinj => rfl); (case hV => (simp only [go_sem, *]) <;> (repeat' (first | refine And.intro ?_ ?_ | exact .bp rfl (by decide) | exact .own rfl (by decide)))); (case hB => (simp only [go_sem, *]) <;> (repeat' (first | refine And.intro ?_ ?_ | exact ⟨_, rfl, BView.boxF rfl⟩ | exact ⟨_, rfl, .rowE (by first | rfl | exact esn | omega | (simp; done) | (rw [wrap_i64] <;> (try simp only [Int.natCast_add]) <;> omega) | (simp [*]; done))⟩)))))
        · obtain ⟨n, hn⟩ : ∃ n : Nat, M.length = n + 1 := ⟨M.length - 1, by omega⟩
          have hw2 : IntKind.i64.wrap ((M.length : Int) - 1) = (n : Int) := by rw [hw1]; omega
          have hn0 : decide ((0 : Int) < (M.length : Int)) = true := decide_eq_true (by omega)
          have hn0' : (0 : Int) ≤ n := by omega
          have hnM : n < M.length := by omega
          have hnM' : (n : Int) < M.length := by omega
          have hatn := sps_at M n hnM
          have hzn : ((M.getD n zeroSp).cells).length = 2 := rfl
          have hsplit : M = M.take n ++ [M.getD n zeroSp] := by
            rw [← take_snocP M n hnM, List.take_of_length_le (by omega)]
          have hlast : ∀ s ∈ M.take n, s.b < (M.getD n zeroSp).b := by
            have h1 := hcan
            rw [hsplit, canon_snoc] at h1
            intro s hs
            have := h1.2.1 s hs
            have := h1.2.2
            omega
          clear hcan
          by_cases hc : (M.getD n zeroSp).b = t
          · have hNe := hgr _ _ hsplit hc
            have hc' : ((M.getD n zeroSp).b == t) = true := by simpa using hc
            have hset : M.set n ⟨(M.getD n zeroSp).a, r⟩ = M.take n ++ [⟨(M.getD n zeroSp).a, r⟩] := by
              rw [List.set_eq_take_append_cons_drop, if_pos hnM, List.drop_eq_nil_of_le (by omega)]
            rw [← hset] at hNe
            have hfin : (sps M).set n [.v (.int .i64 (M.getD n zeroSp).a), .v (.int .i64 r)] = sps N := by
              rw [hNe]; exact sps_set M n ⟨(M.getD n zeroSp).a, r⟩
            generalize M.getD n zeroSp = y at *
            clear hgr hnw hue hr hM0 hw1 hc hn hset hNe hsplit hlast
            repeat' (first
    | (apply Awp.sreg; (case hn => (simp only [List.length_cons, List.length_nil, Nat.reduceAdd] <;> rfl)))
    | (refine st_nil ?_)
    | (apply st_a; (case hc => rfl); (case he => (simp only [go_sem, *] <;> rfl)); (case hu => (simp only [updL_nil, updL_cons] <;> rfl)); (case hp => first | trivial | (simp; done)))
    | (apply st_m; (case hc => rfl); (case hg => (simp only [go_sem, *] <;> rfl)); (case he => (intro hQz; (try simp only [wantB_t, wantB_f, Bool.and_eq_true, Bool.not_eq_true', Bool.not_true, Bool.not_false, and_true, true_and] at hQz); simp only [go_sem, *] <;> rfl)); (case hp => (intro hQz; (try simp only [wantB_t, wantB_f, Bool.and_eq_true, Bool.not_eq_true', Bool.or_eq_false_iff, decide_eq_true_eq, decide_eq_false_iff_not, beq_iff_eq, beq_eq_false_iff_ne, bne_iff_ne, bne_eq_false_iff_eq, Int.not_lt, Int.not_le, Int.ofNat_lt, Int.ofNat_le] at hQz); first | trivial)))
    | (apply st_c; (case hc => (simp only [go_sem, *] <;> rfl)); (case hl => (simp only [go_sem, *] <;> rfl)); (case hn => (simp only [go_sem, *] <;> rfl)); (case hp => first | exact c0 | (have hXz := c0; simp only [go_sem, *] at hXz; exact hXz)))
    | (apply st_c; (case hc => (simp only [go_sem, *] <;> rfl)); (case hl => (simp only [go_sem, *] <;> rfl)); (case hn => (simp only [go_sem, *] <;> rfl)); (case hp => first | exact c1 | (have hXz := c1; simp only [go_sem, *] at hXz; exact hXz)))
    | (apply Awp.reg; (case hn => (simp only [List.length_cons, List.length_nil, Nat.reduceAdd] <;> rfl)))
    | (refine Awp.skip ?_; try simp only [go_sem, *])
    | refine Awp.block ?_
    | (apply Awp.cond; (case hc => (simp only [go_sem, *] <;> rfl)); all_goals (intro hg; (try simp only [Bool.not_true, Bool.not_false, reduceCtorEq] at hg)))
    | refine Awp.seq ?_)
            all_goals (refine ⟨r, hro, hrm, ?_⟩; rw [hN]; clear hro hrm c0 c1; (apply Ghost.mk [] []; (case hdead => rfl); (case hinj => rfl); (case hV => (simp only [go_sem, *]) <;> (repeat' (first | refine And.intro ?_ ?_ | exact .bp rfl (by decide) | exact .own rfl (by decide)))); (case hB => (simp only [go_sem, *]) <;> (repeat' (first | refine And.intro ?_ ?_ | exact ⟨_, rfl, BView.boxF rfl⟩ | exact ⟨_, rfl, .rowE (by first | rfl | exact hfin | omega | (simp; done) | (rw [wrap_i64] <;> (try simp only [Int.natCast_add]) <;> omega) | (simp [*]; done))⟩)))))
          · have hc' : ((M.getD n zeroSp).b == t) = false := by simpa using hc
            have hNe := hnw (by
              intro s hs
              by_cases hsl : s = M.getD n zeroSp
              · rw [hsl]; exact hc
              · rw [hsplit] at hs
                rcases List.mem_append.1 hs with h1 | h1
                · have := hlast s h1
                  have := hue _ (by rw [getD_get M zeroSp n hnM]; exact List.getElem_mem hnM : M.getD n zeroSp ∈ M)
                  omega
                · exact absurd (List.mem_singleton.1 h1) hsl)
            generalize M.getD n zeroSp = y at *
            clear hgr hnw hue hr hM0 hw1 hc hn hsplit hlast
            repeat' (first
    | (apply Awp.sreg; (case hn => (simp only [List.length_cons, List.length_nil, Nat.reduceAdd] <;> rfl)))
    | (refine st_nil ?_)
    | (apply st_a; (case hc => rfl); (case he => (simp only [go_sem, *] <;> rfl)); (case hu => (simp only [updL_nil, updL_cons] <;> rfl)); (case hp => first | trivial | (simp; done) | (simp; omega)))
    | (apply st_m; (case hc => rfl); (case hg => (simp only [go_sem, *] <;> rfl)); (case he => (intro hQz; (try simp only [wantB_t, wantB_f, Bool.and_eq_true, Bool.not_eq_true', Bool.not_true, Bool.not_false, and_true, true_and] at hQz); simp only [go_sem, *] <;> rfl)); (case hp => (intro hQz; (try simp only [wantB_t, wantB_f, Bool.and_eq_true, Bool.not_eq_true', Bool.or_eq_false_iff, decide_eq_true_eq, decide_eq_false_iff_not, beq_iff_eq, beq_eq_false_iff_ne, bne_iff_ne, bne_eq_false_iff_eq, Int.not_lt, Int.not_le, Int.ofNat_lt, Int.ofNat_le] at hQz); first | trivial)))
    | (apply st_c; (case hc => (simp only [go_sem, *] <;> rfl)); (case hl => (simp only [go_sem, *] <;> rfl)); (case hn => (simp only [go_sem, *] <;> rfl)); (case hp => first | exact c0 | (have hXz := c0; simp only [go_sem, *] at hXz; exact hXz)))
    | (apply st_c; (case hc => (simp only [go_sem, *] <;> rfl)); (case hl => (simp only [go_sem, *] <;> rfl)); (case hn => (simp only [go_sem, *] <;> rfl)); (case hp => first | exact c1 | (have hXz := c1; simp only [go_sem, *] at hXz; exact hXz)))
    | (apply Awp.reg; (case hn => (simp only [List.length_cons, List.length_nil, Nat.reduceAdd] <;> rfl)))
    | (refine Awp.skip ?_; try simp only [go_sem, *])
    | refine Awp.block ?_
    | (apply Awp.cond; (case hc => (simp only [go_sem, *] <;> rfl)); all_goals (intro hg; (try simp only [Bool.not_true, Bool.not_false, reduceCtorEq] at hg)))
    | refine Awp.seq ?_)
            all_goals (refine ⟨r, hro, hrm, ?_⟩; rw [hN, hNe]; clear hro hrm c0 c1; (apply Ghost.mk [(1, 90)] []; (case hdead => rfl); (case hinj => rfl); (case hV => (simp only [go_sem, *]) <;> (repeat' (first | refine And.intro ?_ ?_ | exact .bp rfl (by decide) | exact .own rfl (by decide)))); (case hB => (simp only [go_sem, *]) <;> (repeat' (first | refine And.intro ?_ ?_ | exact ⟨_, rfl, BView.boxF rfl⟩ | exact ⟨_, rfl, .rowE (by first | rfl | exact esn | omega | (simp; done) | (rw [wrap_i64] <;> (try simp only [Int.natCast_add]) <;> omega) | (simp [*]; done))⟩)))))
      · have hhb : hasS (busyL l p) t := by rw [← hasB_iff, pick_has, hp]
        have hin := upto_in hta hlt hhb
        rw [hp] at c1
        obtain ⟨r, hre⟩ : ∃ r, nextE (busyL l p) t w.b = r := ⟨_, rfl⟩
        rw [hre] at hin c0 hro hrm
        generalize pickN l p t = nm at *
        clear hsk hsk' hML ef hhb hp hto hr
        repeat' (first
    | (apply Awp.sreg; (case hn => (simp only [List.length_cons, List.length_nil, Nat.reduceAdd] <;> rfl)))
    | (refine st_nil ?_)
    | (apply st_a; (case hc => rfl); (case he => (simp only [go_sem, *] <;> rfl)); (case hu => (simp only [updL_nil, updL_cons] <;> rfl)); (case hp => first | trivial))
    | (apply st_c; (case hc => (simp only [go_sem, *] <;> rfl)); (case hl => (simp only [go_sem, *] <;> rfl)); (case hn => (simp only [go_sem, *] <;> rfl)); (case hp => first | exact c0 | (have hXz := c0; simp only [go_sem, *] at hXz; exact hXz)))
    | (apply st_c; (case hc => (simp only [go_sem, *] <;> rfl)); (case hl => (simp only [go_sem, *] <;> rfl)); (case hn => (simp only [go_sem, *] <;> rfl)); (case hp => first | exact c1 | (have hXz := c1; simp only [go_sem, *] at hXz; exact hXz)))
    | (apply Awp.reg; (case hn => (simp only [List.length_cons, List.length_nil, Nat.reduceAdd] <;> rfl)))
    | (refine Awp.skip ?_; try simp only [go_sem, *])
    | (refine Awp.exit ?_; try simp only [go_sem, *])
    | refine Awp.block ?_
    | (apply Awp.cond; (case hc => (simp only [go_sem, *] <;> rfl)); all_goals (intro hg; (try simp only [Bool.not_true, Bool.not_false, reduceCtorEq] at hg)))
    | refine Awp.seq ?_)
        all_goals (refine ⟨r, hro, hrm, ?_⟩; rw [hin]; clear hro hrm c0 c1 hin; (apply Ghost.mk [] []; (case hdead => rfl); (case hinj => rfl); (case hV => (simp only [go_sem, *]) <;> (repeat' (first | refine And.intro ?_ ?_ | exact .bp rfl (by decide) | exact .own rfl (by decide)))); (case hB => (simp only [go_sem, *]) <;> (repeat' (first | refine And.intro ?_ ?_ | exact ⟨_, rfl, BView.boxF rfl⟩ | exact ⟨_, rfl, .rowE (by first | rfl | omega | (simp; done) | (rw [wrap_i64] <;> (try simp only [Int.natCast_add]) <;> omega) | (simp [*]; done))⟩)))))
    · have hlt' : ¬ t < w.b := hlt
      have hfin : upto w.a t (busyL l p) = upto w.a w.b (busyL l p) := by
        rcases hto with h | h
        · rw [upto_nil (by omega), upto_nil (by omega)]
        · rw [show t = w.b by omega]
      rw [hfin]
      clear hsk hsk' hML ef hfin
      repeat' (first
    | (apply Awp.sreg; (case hn => (simp only [List.length_cons, List.length_nil, Nat.reduceAdd] <;> rfl)))
    | (refine st_nil ?_)
    | (apply st_a; (case hc => rfl); (case he => (simp only [go_sem, *] <;> rfl)); (case hu => (simp only [updL_nil, updL_cons] <;> rfl)); (case hp => first | trivial))
    | (refine Awp.ret ?_; try simp only [go_sem, *])
    | (refine Awp.exit ?_; try simp only [go_sem, *])
    | (apply Awp.cond; (case hc => (simp only [go_sem, *] <;> rfl)); all_goals (intro hg; (try simp only [Bool.not_true, Bool.not_false, reduceCtorEq] at hg)))
    | refine Awp.seq ?_)
      all_goals exact ⟨_, rfl, rfl⟩
end Go.Proofs
end
section
set_option linter.unusedVariables false
set_option linter.unusedSimpArgs false
namespace Go.Proofs
open Go Go.Ab
set_option maxHeartbeats 8000000
set_option maxRecDepth 100000
set_option linter.unusedSimpArgs false
set_option linter.unusedVariables false
attribute [local irreducible] Awp aops aopsL Go.Ab.Pure PureOwn

theorem st_fullg {P : Program} {d : Option Nat} {deps : List Nat} {r : List AOper} {nm : Nat} {t : Nat → AV} {h : Nat → Option Blk} {K : AState → Prop} {p : Prop} {e : TypeId} {sz q : Nat} {want : Bool} {ps : List AOpd} {es : List (List AV)} (hv : t q = .v (.bool want)) (hr : rowE ⟨t, h⟩ sz ps = (p, es)) (hn : ps ≠ []) (hp : p) (hk : aops P r (nm + 1) ⟨putT t d (.slf es sz e), h⟩ K) : aops P (⟨d, .buildSlice e sz ps, some (q, want), deps⟩ :: r) nm ⟨t, h⟩ K :=
  st_g hv (fun _ => st_full hr hn hp hk) (fun h => by cases want <;> cases h)
def twoW : List Wl := [⟨⟨⟨[65, 110, 110]⟩⟩, [⟨⟨⟨[80]⟩⟩, 0, 5⟩, ⟨⟨⟨[80]⟩⟩, 9, 12⟩]⟩, ⟨⟨⟨[66, 111, 98]⟩⟩, [⟨⟨⟨[80]⟩⟩, 4, 6⟩]⟩]
def badW : List Wl := [⟨⟨⟨[65, 110, 110]⟩⟩, [⟨⟨⟨[80]⟩⟩, 0, 5⟩, ⟨⟨⟨[80]⟩⟩, 4, 9⟩]⟩]
def wantW : List Wl := [⟨⟨⟨[65, 110, 110]⟩⟩, [⟨⟨⟨[80]⟩⟩, 0, 12⟩]⟩, ⟨⟨⟨[66, 111, 98]⟩⟩, [⟨⟨⟨[80]⟩⟩, 4, 6⟩]⟩]
theorem goodS_of {l : List Sk} (h : skE l = 0) : GoodS l := by
  unfold skE at h
  rw [firstE_zero] at h
  have hr : ∀ i, i < l.length → rngS (l.getD i zeroSk) = false ∧ ordAt l i = false := fun i hi => by
    have h1 := h i hi
    unfold skAt at h1
    by_cases hn : (!nameB (l.getD i zeroSk).p) = true
    · rw [if_pos hn] at h1; cases h1
    · rw [if_neg hn] at h1
      cases hg : rngS (l.getD i zeroSk)
      · rw [hg] at h1
        cases ho : ordAt l i
        · exact ⟨rfl, rfl⟩
        · rw [ho] at h1; cases h1
      · rw [hg] at h1; cases h1
  have hrg : ∀ i, i < l.length → 0 ≤ (l.getD i zeroSk).a ∧ (l.getD i zeroSk).a < (l.getD i zeroSk).b ∧ (l.getD i zeroSk).b ≤ 1048576 := fun i hi => by
    have := (hr i hi).1
    unfold rngS at this
    simp only [Bool.or_eq_false_iff, decide_eq_false_iff_not] at this
    omega
  have hst : ∀ i, i + 1 < l.length → keyLt (l.getD i zeroSk) (l.getD (i + 1) zeroSk) = true := fun i hi => by
    have h1 := (hr (i + 1) hi).2
    have h2 := hrg i (by omega)
    unfold ordAt ordS at h1
    rw [Nat.add_sub_cancel, decide_eq_true (Nat.succ_pos i), Bool.true_and, Bool.or_eq_false_iff] at h1
    rcases keyLt_tri (l.getD i zeroSk) (l.getD (i + 1) zeroSk) with k | k | k
    · exact k
    · exfalso
      have h3 := h1.2
      rw [show ((l.getD (i + 1) zeroSk).p.toList == (l.getD i zeroSk).p.toList) = true by rw [beq_iff_eq]; exact k.1.symm, Bool.true_and, decide_eq_false_iff_not] at h3
      omega
    · exfalso
      rw [keyLt_iff] at k
      rcases k with k | k
      · rw [← strLess_iff, h1.1] at k; cases k
      · have h3 := h1.2
        rw [show ((l.getD (i + 1) zeroSk).p.toList == (l.getD i zeroSk).p.toList) = true by rw [beq_iff_eq]; exact k.1, Bool.true_and, decide_eq_false_iff_not] at h3
        omega
  constructor
  · rw [List.pairwise_iff_getElem]
    intro i j hi hj hij
    obtain ⟨d, rfl⟩ : ∃ d, j = i + 1 + d := ⟨j - (i + 1), by omega⟩
    induction d with
    | zero =>
      have := hst i hj
      rw [getD_get l zeroSk i hi, getD_get l zeroSk (i + 1) hj] at this
      exact this
    | succ d ih =>
      have h1 := ih (by omega) (by omega)
      have h2 := hst (i + 1 + d) (by omega)
      rw [getD_get l zeroSk (i + 1 + d) (by omega), getD_get l zeroSk (i + 1 + d + 1) (by omega)] at h2
      exact keyLt_trans _ _ _ h1 h2
  · intro x hx
    obtain ⟨i, hi, rfl⟩ := List.getElem_of_mem hx
    have := hrg i hi
    rw [getD_get l zeroSk i hi] at this
    exact this
theorem chk_good {l : List Wl} (h : chkE l = 0) : l.length ≤ 32 ∧ (∀ i, i < l.length → (l.getD i zeroWl).sk.length ≤ 16) ∧ ∀ i, i < l.length → GoodS (l.getD i zeroWl).sk := by
  unfold chkE at h
  by_cases h32 : 32 < l.length
  · rw [if_pos h32] at h; cases h
  rw [if_neg h32, firstE_zero] at h
  have hr : ∀ i, i < l.length → (l.getD i zeroWl).sk.length ≤ 16 ∧ skE (l.getD i zeroWl).sk = 0 := fun i hi => by
    have h1 := h i hi
    unfold chkAt at h1
    by_cases hn : (!nameB (l.getD i zeroWl).nm) = true
    · rw [if_pos hn] at h1; cases h1
    rw [if_neg hn] at h1
    by_cases h16 : 16 < (l.getD i zeroWl).sk.length
    · rw [if_pos h16] at h1; cases h1
    rw [if_neg h16] at h1
    by_cases hs : skE (l.getD i zeroWl).sk ≠ 0
    · rw [if_pos hs] at h1; exact absurd h1 hs
    · exact ⟨by omega, by simpa using hs⟩
  exact ⟨by omega, fun i hi => (hr i hi).1, fun i hi => goodS_of (hr i hi).2⟩
theorem exTwo : chkE twoW = 0 := by kernel_rfl
theorem exBad : chkE badW = 11 := by kernel_rfl
theorem exRen : renE twoW ⟨⟨[65, 110, 110]⟩⟩ ⟨⟨[80]⟩⟩ 5 4 = (wantW, 0) := by kernel_rfl
theorem exRen2 : renE twoW ⟨⟨[69, 118, 101]⟩⟩ ⟨⟨[80]⟩⟩ 5 4 = ([], 8) := by kernel_rfl
theorem exP4 : (pickN twoW ⟨⟨[80]⟩⟩ 4, pickB twoW ⟨⟨[80]⟩⟩ 4) = (⟨⟨[65, 110, 110]⟩⟩, true) := by kernel_rfl
theorem exP5 : (pickN twoW ⟨⟨[80]⟩⟩ 5, pickB twoW ⟨⟨[80]⟩⟩ 5) = (⟨⟨[66, 111, 98]⟩⟩, true) := by kernel_rfl
theorem exP6 : (pickN twoW ⟨⟨[80]⟩⟩ 6, pickB twoW ⟨⟨[80]⟩⟩ 6) = (⟨⟨[]⟩⟩, false) := by kernel_rfl
theorem exQ1 : qualB wantW ⟨⟨[65, 110, 110]⟩⟩ ⟨⟨[80]⟩⟩ 8 = true := by kernel_rfl
theorem exQ2 : qualB twoW ⟨⟨[65, 110, 110]⟩⟩ ⟨⟨[80]⟩⟩ 8 = false := by kernel_rfl
theorem exL : lapE twoW ⟨⟨[80]⟩⟩ ⟨2, 20⟩ = [⟨6, 9⟩, ⟨12, 20⟩] := by kernel_rfl
end Go.Proofs
end
section
set_option linter.unusedVariables false
set_option linter.unusedSimpArgs false
namespace Go.Proofs
open Go Go.Ab
set_option maxHeartbeats 8000000
set_option maxRecDepth 100000
set_option linter.unusedSimpArgs false
set_option linter.unusedVariables false
attribute [local irreducible] Awp aops aopsL Go.Ab.Pure PureOwn

theorem two_ok : Pure Try.prog 30 [] (.sl [[.v (.string ⟨⟨[65, 110, 110]⟩⟩), .sl [[.v (.string ⟨⟨[80]⟩⟩), .v (.int .i64 0), .v (.int .i64 5)], [.v (.string ⟨⟨[80]⟩⟩), .v (.int .i64 9), .v (.int .i64 12)]]], [.v (.string ⟨⟨[66, 111, 98]⟩⟩), .sl [[.v (.string ⟨⟨[80]⟩⟩), .v (.int .i64 4), .v (.int .i64 6)]]]]) := by
  refine fn_pure Try.F30 (Nat.le_of_ble_eq_true rfl) ?_; unfold Try.ac30
  repeat' (first
    | (apply Awp.sreg; (case hn => (simp only [List.length_cons, List.length_nil, Nat.reduceAdd] <;> rfl)))
    | (refine st_nil ?_)
    | (apply st_full (d := some 3); (case hr => (simp only [go_sem, *] <;> rfl)); (case hn => (simp; done)); (case hp => (first | (simp; done))))
    | (apply st_full (d := some 6); (case hr => (simp only [go_sem, *] <;> rfl)); (case hn => (simp; done)); (case hp => (first | (simp; done))))
    | (apply st_a; (case hc => rfl); (case he => (simp only [go_sem, *] <;> rfl)); (case hu => (simp only [updL_nil, updL_cons] <;> rfl)); (case hp => first | trivial | (simp; done)))
    | (refine Awp.ret ?_; try simp only [go_sem, *]))
  all_goals repeat' (first | exact Lower.ownE (by simp only [go_sem, *] <;> rfl) (by first | rfl | (simp only [true_and, Bool.true_and, Bool.false_and, Bool.and_true, Bool.and_false, Bool.true_or, Bool.false_or, reduceIte, Bool.false_eq_true, *]; done) | (simp only [true_and, reduceIte, Bool.false_eq_true, *] <;> rfl) | (simp [true_and]; done) | (simp_all [true_and]; done) | omega))
theorem awake_ok : Pure Try.prog 14 [] (.v (.bool true)) := by
  have hg := chk_good exTwo
  have hk : ∀ i, i < twoW.length → (twoW.getD i zeroWl).sk.length ≤ 40 := fun i hi => by have := hg.2.1 i hi; omega
  have hk2 : ∀ i, i < twoW.length → (twoW.getD i zeroWl).sk.length < 1000000 := fun i hi => by have := hg.2.1 i hi; omega
  have hw : ∀ i, i < wantW.length → (wantW.getD i zeroWl).sk.length < 1000000 := fun i hi => by
    match i, hi with
    | 0, _ => decide
    | 1, _ => decide
  have hb : ∀ i, i < badW.length → (badW.getD i zeroWl).sk.length < 100000 := fun i hi => by
    match i, hi with
    | 0, _ => decide
  have c0 := two_ok
  have c1 : Pure Try.prog 20 [.sl [[.v (.string ⟨⟨[65, 110, 110]⟩⟩), .sl [[.v (.string ⟨⟨[80]⟩⟩), .v (.int .i64 0), .v (.int .i64 5)], [.v (.string ⟨⟨[80]⟩⟩), .v (.int .i64 9), .v (.int .i64 12)]]], [.v (.string ⟨⟨[66, 111, 98]⟩⟩), .sl [[.v (.string ⟨⟨[80]⟩⟩), .v (.int .i64 4), .v (.int .i64 6)]]]], .v (.string ⟨⟨[65, 110, 110]⟩⟩), .v (.string ⟨⟨[80]⟩⟩), .v (.int .i64 5), .v (.int .i64 4)] (.tup [.sl [[.v (.string ⟨⟨[65, 110, 110]⟩⟩), .sl [[.v (.string ⟨⟨[80]⟩⟩), .v (.int .i64 0), .v (.int .i64 12)]]], [.v (.string ⟨⟨[66, 111, 98]⟩⟩), .sl [[.v (.string ⟨⟨[80]⟩⟩), .v (.int .i64 4), .v (.int .i64 6)]]]], .v (.int .i64 0)]) := by
    have h := renew_ok twoW ⟨⟨[65, 110, 110]⟩⟩ ⟨⟨[80]⟩⟩ 5 4 (by decide) hk hg.2.2; rw [exRen] at h; exact h
  have c2 : Pure Try.prog 20 [.sl [[.v (.string ⟨⟨[65, 110, 110]⟩⟩), .sl [[.v (.string ⟨⟨[80]⟩⟩), .v (.int .i64 0), .v (.int .i64 5)], [.v (.string ⟨⟨[80]⟩⟩), .v (.int .i64 9), .v (.int .i64 12)]]], [.v (.string ⟨⟨[66, 111, 98]⟩⟩), .sl [[.v (.string ⟨⟨[80]⟩⟩), .v (.int .i64 4), .v (.int .i64 6)]]]], .v (.string ⟨⟨[69, 118, 101]⟩⟩), .v (.string ⟨⟨[80]⟩⟩), .v (.int .i64 5), .v (.int .i64 4)] (.tup [.sl [], .v (.int .i64 8)]) := by
    have h := renew_ok twoW ⟨⟨[69, 118, 101]⟩⟩ ⟨⟨[80]⟩⟩ 5 4 (by decide) hk hg.2.2; rw [exRen2] at h; exact h
  have c3 : Pure Try.prog 16 [.sl [[.v (.string ⟨⟨[65, 110, 110]⟩⟩), .sl [[.v (.string ⟨⟨[80]⟩⟩), .v (.int .i64 0), .v (.int .i64 5)], [.v (.string ⟨⟨[80]⟩⟩), .v (.int .i64 9), .v (.int .i64 12)]]], [.v (.string ⟨⟨[66, 111, 98]⟩⟩), .sl [[.v (.string ⟨⟨[80]⟩⟩), .v (.int .i64 4), .v (.int .i64 6)]]]], .v (.string ⟨⟨[80]⟩⟩), .v (.int .i64 4)] (.tup [.v (.string ⟨⟨[65, 110, 110]⟩⟩), .v (.bool true)]) := by
    have h := pick_ok twoW ⟨⟨[80]⟩⟩ 4 (by decide) hk2; rw [(Prod.mk.inj exP4).1, (Prod.mk.inj exP4).2] at h; exact h
  have c4 : Pure Try.prog 16 [.sl [[.v (.string ⟨⟨[65, 110, 110]⟩⟩), .sl [[.v (.string ⟨⟨[80]⟩⟩), .v (.int .i64 0), .v (.int .i64 5)], [.v (.string ⟨⟨[80]⟩⟩), .v (.int .i64 9), .v (.int .i64 12)]]], [.v (.string ⟨⟨[66, 111, 98]⟩⟩), .sl [[.v (.string ⟨⟨[80]⟩⟩), .v (.int .i64 4), .v (.int .i64 6)]]]], .v (.string ⟨⟨[80]⟩⟩), .v (.int .i64 5)] (.tup [.v (.string ⟨⟨[66, 111, 98]⟩⟩), .v (.bool true)]) := by
    have h := pick_ok twoW ⟨⟨[80]⟩⟩ 5 (by decide) hk2; rw [(Prod.mk.inj exP5).1, (Prod.mk.inj exP5).2] at h; exact h
  have c5 : Pure Try.prog 16 [.sl [[.v (.string ⟨⟨[65, 110, 110]⟩⟩), .sl [[.v (.string ⟨⟨[80]⟩⟩), .v (.int .i64 0), .v (.int .i64 5)], [.v (.string ⟨⟨[80]⟩⟩), .v (.int .i64 9), .v (.int .i64 12)]]], [.v (.string ⟨⟨[66, 111, 98]⟩⟩), .sl [[.v (.string ⟨⟨[80]⟩⟩), .v (.int .i64 4), .v (.int .i64 6)]]]], .v (.string ⟨⟨[80]⟩⟩), .v (.int .i64 6)] (.tup [.v (.string ⟨⟨[]⟩⟩), .v (.bool false)]) := by
    have h := pick_ok twoW ⟨⟨[80]⟩⟩ 6 (by decide) hk2; rw [(Prod.mk.inj exP6).1, (Prod.mk.inj exP6).2] at h; exact h
  have c6 : Pure Try.prog 12 [.sl [[.v (.string ⟨⟨[65, 110, 110]⟩⟩), .sl [[.v (.string ⟨⟨[80]⟩⟩), .v (.int .i64 0), .v (.int .i64 5)], [.v (.string ⟨⟨[80]⟩⟩), .v (.int .i64 9), .v (.int .i64 12)]]], [.v (.string ⟨⟨[66, 111, 98]⟩⟩), .sl [[.v (.string ⟨⟨[80]⟩⟩), .v (.int .i64 4), .v (.int .i64 6)]]]]] (.v (.int .i64 0)) := by
    have h := check_ok twoW (by decide) (fun i hi => by have := hg.2.1 i hi; omega); rw [exTwo] at h; exact h
  have c7 : Pure Try.prog 12 [.sl [[.v (.string ⟨⟨[65, 110, 110]⟩⟩), .sl [[.v (.string ⟨⟨[80]⟩⟩), .v (.int .i64 0), .v (.int .i64 5)], [.v (.string ⟨⟨[80]⟩⟩), .v (.int .i64 4), .v (.int .i64 9)]]]]] (.v (.int .i64 11)) := by
    have h := check_ok badW (by decide) hb; rw [exBad] at h; exact h
  have c8 : Pure Try.prog 22 [.sl [[.v (.string ⟨⟨[65, 110, 110]⟩⟩), .sl [[.v (.string ⟨⟨[80]⟩⟩), .v (.int .i64 0), .v (.int .i64 12)]]], [.v (.string ⟨⟨[66, 111, 98]⟩⟩), .sl [[.v (.string ⟨⟨[80]⟩⟩), .v (.int .i64 4), .v (.int .i64 6)]]]], .sl [[.v (.string ⟨⟨[65, 110, 110]⟩⟩), .sl [[.v (.string ⟨⟨[80]⟩⟩), .v (.int .i64 0), .v (.int .i64 12)]]], [.v (.string ⟨⟨[66, 111, 98]⟩⟩), .sl [[.v (.string ⟨⟨[80]⟩⟩), .v (.int .i64 4), .v (.int .i64 6)]]]]] (.v (.bool true)) := by
    exact samewl_ok wantW (by decide) hw
  have c9 : Pure Try.prog 18 [.sl [[.v (.string ⟨⟨[65, 110, 110]⟩⟩), .sl [[.v (.string ⟨⟨[80]⟩⟩), .v (.int .i64 0), .v (.int .i64 12)]]], [.v (.string ⟨⟨[66, 111, 98]⟩⟩), .sl [[.v (.string ⟨⟨[80]⟩⟩), .v (.int .i64 4), .v (.int .i64 6)]]]], .v (.string ⟨⟨[65, 110, 110]⟩⟩), .v (.string ⟨⟨[80]⟩⟩), .v (.int .i64 8)] (.v (.bool true)) := by
    have h := qualified_ok wantW ⟨⟨[65, 110, 110]⟩⟩ ⟨⟨[80]⟩⟩ 8 (by decide) hw; rw [exQ1] at h; exact h
  have d1 : Pure Try.prog 18 [.sl [[.v (.string ⟨⟨[65, 110, 110]⟩⟩), .sl [[.v (.string ⟨⟨[80]⟩⟩), .v (.int .i64 0), .v (.int .i64 5)], [.v (.string ⟨⟨[80]⟩⟩), .v (.int .i64 9), .v (.int .i64 12)]]], [.v (.string ⟨⟨[66, 111, 98]⟩⟩), .sl [[.v (.string ⟨⟨[80]⟩⟩), .v (.int .i64 4), .v (.int .i64 6)]]]], .v (.string ⟨⟨[65, 110, 110]⟩⟩), .v (.string ⟨⟨[80]⟩⟩), .v (.int .i64 8)] (.v (.bool false)) := by
    have h := qualified_ok twoW ⟨⟨[65, 110, 110]⟩⟩ ⟨⟨[80]⟩⟩ 8 (by decide) hk2; rw [exQ2] at h; exact h
  have d2 : Pure Try.prog 24 [.sl [[.v (.string ⟨⟨[65, 110, 110]⟩⟩), .sl [[.v (.string ⟨⟨[80]⟩⟩), .v (.int .i64 0), .v (.int .i64 5)], [.v (.string ⟨⟨[80]⟩⟩), .v (.int .i64 9), .v (.int .i64 12)]]], [.v (.string ⟨⟨[66, 111, 98]⟩⟩), .sl [[.v (.string ⟨⟨[80]⟩⟩), .v (.int .i64 4), .v (.int .i64 6)]]]], .v (.string ⟨⟨[80]⟩⟩), .agg [.v (.int .i64 2), .v (.int .i64 20)]] (.sl [[.v (.int .i64 6), .v (.int .i64 9)], [.v (.int .i64 12), .v (.int .i64 20)]]) := by
    have h := (lapses_ok twoW ⟨⟨[80]⟩⟩ ⟨2, 20⟩ (by decide) hk).pure; rw [exL] at h; exact h
  have d3 : Pure Try.prog 23 [.sl [[.v (.int .i64 6), .v (.int .i64 9)], [.v (.int .i64 12), .v (.int .i64 20)]], .sl [[.v (.int .i64 6), .v (.int .i64 9)], [.v (.int .i64 12), .v (.int .i64 20)]]] (.v (.bool true)) := by
    exact samesp_ok [⟨6, 9⟩, ⟨12, 20⟩] (by decide)
  clear hg hk hk2 hw hb
  refine fn_pure Try.F14 (Nat.le_of_ble_eq_true rfl) ?_; unfold Try.ac14
  repeat' (first
    | (apply Awp.sreg; (case hn => (simp only [List.length_cons, List.length_nil, Nat.reduceAdd] <;> rfl)))
    | (refine st_nil ?_)
    | (apply st_fullg (d := some 45); (case hv => (simp only [go_sem, *] <;> rfl)); (case hr => (simp only [go_sem, *] <;> rfl)); (case hn => (simp; done)); (case hp => (first | (simp; done))))
    | (apply st_full (d := some 79); (case hr => (simp only [go_sem, *] <;> rfl)); (case hn => (simp; done)); (case hp => (first | (simp; done))))
    | (apply st_a; (case hc => rfl); (case he => (simp only [go_sem, *] <;> rfl)); (case hu => (simp only [updL_nil, updL_cons] <;> rfl)); (case hp => first | trivial | (simp; done)))
    | (apply st_m; (case hc => rfl); (case hg => (simp only [go_sem, *] <;> rfl)); (case he => (intro hQz; (try simp only [wantB_t, wantB_f, Bool.and_eq_true, Bool.not_eq_true', Bool.not_true, Bool.not_false, and_true, true_and] at hQz); simp only [go_sem, *] <;> rfl)); (case hp => (intro hQz; (try simp only [wantB_t, wantB_f, Bool.and_eq_true, Bool.not_eq_true', Bool.or_eq_false_iff, decide_eq_true_eq, decide_eq_false_iff_not, beq_iff_eq, beq_eq_false_iff_ne, bne_iff_ne, bne_eq_false_iff_eq, Int.not_lt, Int.not_le, Int.ofNat_lt, Int.ofNat_le] at hQz); first | trivial)))
    | (apply st_c; (case hc => (simp only [go_sem, *] <;> rfl)); (case hl => (simp only [go_sem, *] <;> rfl)); (case hn => (simp only [go_sem, *] <;> rfl)); (case hp => first | exact c0 | (have hXz := c0; simp only [go_sem, *] at hXz; exact hXz)))
    | (apply st_c; (case hc => (simp only [go_sem, *] <;> rfl)); (case hl => (simp only [go_sem, *] <;> rfl)); (case hn => (simp only [go_sem, *] <;> rfl)); (case hp => first | exact c1 | (have hXz := c1; simp only [go_sem, *] at hXz; exact hXz)))
    | (apply st_c; (case hc => (simp only [go_sem, *] <;> rfl)); (case hl => (simp only [go_sem, *] <;> rfl)); (case hn => (simp only [go_sem, *] <;> rfl)); (case hp => first | exact c2 | (have hXz := c2; simp only [go_sem, *] at hXz; exact hXz)))
    | (apply st_c; (case hc => (simp only [go_sem, *] <;> rfl)); (case hl => (simp only [go_sem, *] <;> rfl)); (case hn => (simp only [go_sem, *] <;> rfl)); (case hp => first | exact c3 | (have hXz := c3; simp only [go_sem, *] at hXz; exact hXz)))
    | (apply st_c; (case hc => (simp only [go_sem, *] <;> rfl)); (case hl => (simp only [go_sem, *] <;> rfl)); (case hn => (simp only [go_sem, *] <;> rfl)); (case hp => first | exact c4 | (have hXz := c4; simp only [go_sem, *] at hXz; exact hXz)))
    | (apply st_c; (case hc => (simp only [go_sem, *] <;> rfl)); (case hl => (simp only [go_sem, *] <;> rfl)); (case hn => (simp only [go_sem, *] <;> rfl)); (case hp => first | exact c5 | (have hXz := c5; simp only [go_sem, *] at hXz; exact hXz)))
    | (apply st_c; (case hc => (simp only [go_sem, *] <;> rfl)); (case hl => (simp only [go_sem, *] <;> rfl)); (case hn => (simp only [go_sem, *] <;> rfl)); (case hp => first | exact c6 | (have hXz := c6; simp only [go_sem, *] at hXz; exact hXz)))
    | (apply st_cd; (case hc => (simp only [go_sem, *] <;> rfl)); (case hl => (simp only [go_sem, *] <;> rfl)); (case hn => (simp only [go_sem, *] <;> rfl)); (case hp => first | exact c7 | (have hXz := c7; simp only [go_sem, *] at hXz; exact hXz)); (case hd => first | exact .v _ | exact .any | exact .nils | (repeat' (first | exact Dry.v _ | exact Dry.any | exact Dry.nils | exact Dry.slE | refine Dry.agg ?_ | refine Dry.tup ?_ | (refine List.forall_mem_cons.2 (And.intro ?_ ?_)) | (intro cQ hQ; cases hQ; done)))); (case hm => first | decide | (simp; done)))
    | (apply st_cd; (case hc => (simp only [go_sem, *] <;> rfl)); (case hl => (simp only [go_sem, *] <;> rfl)); (case hn => (simp only [go_sem, *] <;> rfl)); (case hp => first | exact c8 | (have hXz := c8; simp only [go_sem, *] at hXz; exact hXz)); (case hd => first | exact .v _ | exact .any | exact .nils | (repeat' (first | exact Dry.v _ | exact Dry.any | exact Dry.nils | exact Dry.slE | refine Dry.agg ?_ | refine Dry.tup ?_ | (refine List.forall_mem_cons.2 (And.intro ?_ ?_)) | (intro cQ hQ; cases hQ; done)))); (case hm => first | decide | (simp; done)))
    | (apply st_mc; (case hop => rfl); (case hg => (simp only [go_sem, *] <;> rfl)); (case hc => (intro hQz; (try simp only [wantB_t, wantB_f, Bool.and_eq_true, Bool.not_eq_true', Bool.not_true, Bool.not_false, and_true, true_and] at hQz); simp only [go_sem, *] <;> rfl)); (case hl => (intro hQz; (try simp only [wantB_t, wantB_f, Bool.and_eq_true, Bool.not_eq_true', Bool.not_true, Bool.not_false, and_true, true_and] at hQz); simp only [go_sem, *] <;> rfl)); (case hn => (intro hQz; (try simp only [wantB_t, wantB_f, Bool.and_eq_true, Bool.not_eq_true', Bool.not_true, Bool.not_false, and_true, true_and] at hQz); simp only [go_sem, *] <;> rfl)); (case hp => intro hQz; first | exact c9 | (have hXz := c9; simp only [go_sem, *] at hXz; exact hXz)))
    | (apply st_mc; (case hop => rfl); (case hg => (simp only [go_sem, *] <;> rfl)); (case hc => (intro hQz; (try simp only [wantB_t, wantB_f, Bool.and_eq_true, Bool.not_eq_true', Bool.not_true, Bool.not_false, and_true, true_and] at hQz); simp only [go_sem, *] <;> rfl)); (case hl => (intro hQz; (try simp only [wantB_t, wantB_f, Bool.and_eq_true, Bool.not_eq_true', Bool.not_true, Bool.not_false, and_true, true_and] at hQz); simp only [go_sem, *] <;> rfl)); (case hn => (intro hQz; (try simp only [wantB_t, wantB_f, Bool.and_eq_true, Bool.not_eq_true', Bool.not_true, Bool.not_false, and_true, true_and] at hQz); simp only [go_sem, *] <;> rfl)); (case hp => intro hQz; first | exact d1 | (have hXz := d1; simp only [go_sem, *] at hXz; exact hXz)))
    | (apply st_mc; (case hop => rfl); (case hg => (simp only [go_sem, *] <;> rfl)); (case hc => (intro hQz; (try simp only [wantB_t, wantB_f, Bool.and_eq_true, Bool.not_eq_true', Bool.not_true, Bool.not_false, and_true, true_and] at hQz); simp only [go_sem, *] <;> rfl)); (case hl => (intro hQz; (try simp only [wantB_t, wantB_f, Bool.and_eq_true, Bool.not_eq_true', Bool.not_true, Bool.not_false, and_true, true_and] at hQz); simp only [go_sem, *] <;> rfl)); (case hn => (intro hQz; (try simp only [wantB_t, wantB_f, Bool.and_eq_true, Bool.not_eq_true', Bool.not_true, Bool.not_false, and_true, true_and] at hQz); simp only [go_sem, *] <;> rfl)); (case hp => intro hQz; first | exact d2 | (have hXz := d2; simp only [go_sem, *] at hXz; exact hXz)))
    | (apply st_cd; (case hc => (simp only [go_sem, *] <;> rfl)); (case hl => (simp only [go_sem, *] <;> rfl)); (case hn => (simp only [go_sem, *] <;> rfl)); (case hp => first | exact d3 | (have hXz := d3; simp only [go_sem, *] at hXz; exact hXz)); (case hd => first | exact .v _ | exact .any | exact .nils | (repeat' (first | exact Dry.v _ | exact Dry.any | exact Dry.nils | exact Dry.slE | refine Dry.agg ?_ | refine Dry.tup ?_ | (refine List.forall_mem_cons.2 (And.intro ?_ ?_)) | (intro cQ hQ; cases hQ; done)))); (case hm => first | decide | (simp; done)))
    | (apply st_g; (case hv => (simp only [go_sem, *] <;> rfl)); all_goals (intro hg; (try simp only [Bool.not_true, Bool.not_false, reduceCtorEq] at hg); (try have hg' := hg); (try simp only [decide_eq_true_eq, decide_eq_false_iff_not, Bool.and_eq_true, Bool.or_eq_false_iff, bne_iff_ne, bne_eq_false_iff_eq, beq_iff_eq, beq_eq_false_iff_ne, Int.not_lt, Int.not_le, Int.ofNat_lt, Int.ofNat_le, Int.natCast_inj] at hg')))
    | (refine Awp.ret ?_; try simp only [go_sem, *])
    | (refine Awp.skip ?_; try simp only [go_sem, *])
    | (apply Awp.cond; (case hc => (simp only [go_sem, *] <;> rfl)); all_goals (intro hg; (try simp only [Bool.not_true, Bool.not_false, reduceCtorEq] at hg); (try have hg' := hg); (try simp only [decide_eq_true_eq, decide_eq_false_iff_not, Bool.and_eq_true, Bool.or_eq_false_iff, bne_iff_ne, bne_eq_false_iff_eq, beq_iff_eq, beq_eq_false_iff_ne, Int.not_lt, Int.not_le, Int.ofNat_lt, Int.ofNat_le, Int.natCast_inj] at hg')))
    | refine Awp.seq ?_)
  all_goals repeat' (first | exact Lower.bool (by first | rfl | (simp only [true_and, Bool.true_and, Bool.false_and, Bool.and_true, Bool.and_false, Bool.true_or, Bool.false_or, reduceIte, Bool.false_eq_true, *]; done) | (simp only [true_and, reduceIte, Bool.false_eq_true, *] <;> rfl) | (simp [true_and]; done) | (simp_all [true_and]; done) | omega))
end Go.Proofs
end
section
set_option linter.unusedVariables false
set_option linter.unusedSimpArgs false
namespace Go.Proofs
open Go Go.Ab
set_option maxHeartbeats 8000000
set_option maxRecDepth 100000
set_option linter.unusedSimpArgs false
set_option linter.unusedVariables false
attribute [local irreducible] Awp aops aopsL Go.Ab.Pure PureOwn

theorem checks_ok (l : List Wl) : Pure Try.prog 3 [.sl (wls l)] (.v (.bool true)) := by
  have c0 := few_ok l
  cases h1 : fewB l
  · rw [h1] at c0
    refine fn_pure Try.F3 (Nat.le_of_ble_eq_true rfl) ?_; unfold Try.ac3
    repeat' (first
    | (apply Awp.sreg; (case hn => (simp only [List.length_cons, List.length_nil, Nat.reduceAdd] <;> rfl)))
    | (refine st_nil ?_)
    | (apply st_a; (case hc => rfl); (case he => (simp only [go_sem, *] <;> rfl)); (case hu => (simp only [updL_nil, updL_cons] <;> rfl)); (case hp => first | trivial))
    | (apply st_m; (case hc => rfl); (case hg => (simp only [go_sem, *] <;> rfl)); (case he => (intro hQz; (try simp only [wantB_t, wantB_f, Bool.and_eq_true, Bool.not_eq_true', Bool.not_true, Bool.not_false, and_true, true_and] at hQz); simp only [go_sem, *] <;> rfl)); (case hp => (intro hQz; (try simp only [wantB_t, wantB_f, Bool.and_eq_true, Bool.not_eq_true', Bool.or_eq_false_iff, decide_eq_true_eq, decide_eq_false_iff_not, beq_iff_eq, beq_eq_false_iff_ne, bne_iff_ne, bne_eq_false_iff_eq, Int.not_lt, Int.not_le, Int.ofNat_lt, Int.ofNat_le] at hQz); first | trivial)))
    | (apply st_c; (case hc => (simp only [go_sem, *] <;> rfl)); (case hl => (simp only [go_sem, *] <;> rfl)); (case hn => (simp only [go_sem, *] <;> rfl)); (case hp => first | exact c0 | (have hXz := c0; simp only [go_sem, *] at hXz; exact hXz)))
    | (apply st_mc; (case hop => rfl); (case hg => (simp only [go_sem, *] <;> rfl)); (case hc => (intro hQz; (try simp only [wantB_t, wantB_f, Bool.and_eq_true, Bool.not_eq_true', Bool.not_true, Bool.not_false, and_true, true_and] at hQz); simp only [go_sem, *] <;> rfl)); (case hl => (intro hQz; (try simp only [wantB_t, wantB_f, Bool.and_eq_true, Bool.not_eq_true', Bool.not_true, Bool.not_false, and_true, true_and] at hQz); simp only [go_sem, *] <;> rfl)); (case hn => (intro hQz; (try simp only [wantB_t, wantB_f, Bool.and_eq_true, Bool.not_eq_true', Bool.not_true, Bool.not_false, and_true, true_and] at hQz); simp only [go_sem, *] <;> rfl)); (case hp => intro hQz; first | exact awake_ok | (have hXz := awake_ok; simp only [go_sem, *] at hXz; exact hXz)))
    | (apply st_g; (case hv => (simp only [go_sem, *] <;> rfl)); all_goals (intro hg; (try simp only [Bool.not_true, Bool.not_false, reduceCtorEq] at hg)))
    | (refine Awp.ret ?_; try simp only [go_sem, *]))
    all_goals repeat' (first | exact Lower.bool (by first | rfl | (simp only [true_and, Bool.true_and, Bool.false_and, Bool.and_true, Bool.and_false, Bool.true_or, Bool.false_or, reduceIte, Bool.false_eq_true, *]; done) | (simp only [true_and, reduceIte, Bool.false_eq_true, *] <;> rfl) | (simp [true_and]; done) | (simp_all [true_and]; done) | omega))
  rw [h1] at c0
  obtain ⟨hl, hs⟩ := few_get h1
  have c1 := check_ok l (by omega) (fun i hi => by have := hs i hi; omega)
  have c2 := rcheck_ok l (by omega) (fun i hi => by have := hs i hi; omega)
  have he : (chkE l == chkE l) = true := by simp
  clear h1 hs hl
  generalize chkE l = E at *
  refine fn_pure Try.F3 (Nat.le_of_ble_eq_true rfl) ?_; unfold Try.ac3
  repeat' (first
    | (apply Awp.sreg; (case hn => (simp only [List.length_cons, List.length_nil, Nat.reduceAdd] <;> rfl)))
    | (refine st_nil ?_)
    | (apply st_a; (case hc => rfl); (case he => (simp only [go_sem, *] <;> rfl)); (case hu => (simp only [updL_nil, updL_cons] <;> rfl)); (case hp => first | trivial))
    | (apply st_m; (case hc => rfl); (case hg => (simp only [go_sem, *] <;> rfl)); (case he => (intro hQz; (try simp only [wantB_t, wantB_f, Bool.and_eq_true, Bool.not_eq_true', Bool.not_true, Bool.not_false, and_true, true_and] at hQz); simp only [go_sem, *] <;> rfl)); (case hp => (intro hQz; (try simp only [wantB_t, wantB_f, Bool.and_eq_true, Bool.not_eq_true', Bool.or_eq_false_iff, decide_eq_true_eq, decide_eq_false_iff_not, beq_iff_eq, beq_eq_false_iff_ne, bne_iff_ne, bne_eq_false_iff_eq, Int.not_lt, Int.not_le, Int.ofNat_lt, Int.ofNat_le] at hQz); first | trivial)))
    | (apply st_c; (case hc => (simp only [go_sem, *] <;> rfl)); (case hl => (simp only [go_sem, *] <;> rfl)); (case hn => (simp only [go_sem, *] <;> rfl)); (case hp => first | exact c0 | (have hXz := c0; simp only [go_sem, *] at hXz; exact hXz)))
    | (apply st_mc; (case hop => rfl); (case hg => (simp only [go_sem, *] <;> rfl)); (case hc => (intro hQz; (try simp only [wantB_t, wantB_f, Bool.and_eq_true, Bool.not_eq_true', Bool.not_true, Bool.not_false, and_true, true_and] at hQz); simp only [go_sem, *] <;> rfl)); (case hl => (intro hQz; (try simp only [wantB_t, wantB_f, Bool.and_eq_true, Bool.not_eq_true', Bool.not_true, Bool.not_false, and_true, true_and] at hQz); simp only [go_sem, *] <;> rfl)); (case hn => (intro hQz; (try simp only [wantB_t, wantB_f, Bool.and_eq_true, Bool.not_eq_true', Bool.not_true, Bool.not_false, and_true, true_and] at hQz); simp only [go_sem, *] <;> rfl)); (case hp => intro hQz; first | exact c1 | (have hXz := c1; simp only [go_sem, *] at hXz; exact hXz)))
    | (apply st_mc; (case hop => rfl); (case hg => (simp only [go_sem, *] <;> rfl)); (case hc => (intro hQz; (try simp only [wantB_t, wantB_f, Bool.and_eq_true, Bool.not_eq_true', Bool.not_true, Bool.not_false, and_true, true_and] at hQz); simp only [go_sem, *] <;> rfl)); (case hl => (intro hQz; (try simp only [wantB_t, wantB_f, Bool.and_eq_true, Bool.not_eq_true', Bool.not_true, Bool.not_false, and_true, true_and] at hQz); simp only [go_sem, *] <;> rfl)); (case hn => (intro hQz; (try simp only [wantB_t, wantB_f, Bool.and_eq_true, Bool.not_eq_true', Bool.not_true, Bool.not_false, and_true, true_and] at hQz); simp only [go_sem, *] <;> rfl)); (case hp => intro hQz; first | exact c2 | (have hXz := c2; simp only [go_sem, *] at hXz; exact hXz)))
    | (apply st_mc; (case hop => rfl); (case hg => (simp only [go_sem, *] <;> rfl)); (case hc => (intro hQz; (try simp only [wantB_t, wantB_f, Bool.and_eq_true, Bool.not_eq_true', Bool.not_true, Bool.not_false, and_true, true_and] at hQz); simp only [go_sem, *] <;> rfl)); (case hl => (intro hQz; (try simp only [wantB_t, wantB_f, Bool.and_eq_true, Bool.not_eq_true', Bool.not_true, Bool.not_false, and_true, true_and] at hQz); simp only [go_sem, *] <;> rfl)); (case hn => (intro hQz; (try simp only [wantB_t, wantB_f, Bool.and_eq_true, Bool.not_eq_true', Bool.not_true, Bool.not_false, and_true, true_and] at hQz); simp only [go_sem, *] <;> rfl)); (case hp => intro hQz; first | exact awake_ok | (have hXz := awake_ok; simp only [go_sem, *] at hXz; exact hXz)))
    | (refine Awp.ret ?_; try simp only [go_sem, *]))
  all_goals repeat' (first | exact Lower.bool (by first | rfl | (simp only [true_and, Bool.true_and, Bool.false_and, Bool.and_true, Bool.and_false, Bool.true_or, Bool.false_or, reduceIte, Bool.false_eq_true, *]; done) | (simp only [true_and, reduceIte, Bool.false_eq_true, *] <;> rfl) | (simp [true_and]; done) | (simp_all [true_and]; done) | omega))
structure Ak where
  nm : ByteArray
  p : ByteArray
  a : Int
  h : Int
def Ak.cells (x : Ak) : List AV := [.v (.string x.nm), .v (.string x.p), .v (.int .i64 x.a), .v (.int .i64 x.h)]
def Ak.av (x : Ak) : AV := .agg x.cells
attribute [go_sem] Ak.cells Ak.av
theorem right_get {l : List Wl} (h : rightB l = true) : l.length ≤ 32 ∧ (∀ i, i < l.length → (l.getD i zeroWl).sk.length ≤ 16) ∧ ∀ i, i < l.length → GoodS (l.getD i zeroWl).sk := by
  unfold rightB at h
  rw [Bool.and_eq_true, beq_iff_eq] at h
  exact chk_good h.2
theorem asks_ok (l : List Wl) (x : Ak) : Pure Try.prog 4 [.sl (wls l), x.av] (.v (.bool true)) := by
  have c0 := right_ok l
  cases h1 : rightB l
  · rw [h1] at c0
    refine fn_pure Try.F4 (Nat.le_of_ble_eq_true rfl) ?_; unfold Try.ac4
    repeat' (first
    | (apply Awp.sreg; (case hn => (simp only [List.length_cons, List.length_nil, Nat.reduceAdd] <;> rfl)))
    | (refine st_nil ?_)
    | (apply st_a; (case hc => rfl); (case he => (simp only [go_sem, *] <;> rfl)); (case hu => (simp only [updL_nil, updL_cons] <;> rfl)); (case hp => first | trivial))
    | (apply st_c; (case hc => (simp only [go_sem, *] <;> rfl)); (case hl => (simp only [go_sem, *] <;> rfl)); (case hn => (simp only [go_sem, *] <;> rfl)); (case hp => first | exact c0 | (have hXz := c0; simp only [go_sem, *] at hXz; exact hXz)))
    | (apply st_c; (case hc => (simp only [go_sem, *] <;> rfl)); (case hl => (simp only [go_sem, *] <;> rfl)); (case hn => (simp only [go_sem, *] <;> rfl)); (case hp => first | exact awake_ok | (have hXz := awake_ok; simp only [go_sem, *] at hXz; exact hXz)))
    | (refine Awp.ret ?_; try simp only [go_sem, *])
    | (apply Awp.cond; (case hc => (simp only [go_sem, *] <;> rfl)); all_goals (intro hg; (try simp only [Bool.not_true, Bool.not_false, reduceCtorEq] at hg)))
    | refine Awp.seq ?_)
    all_goals repeat' (first | exact Lower.bool (by first | rfl | (simp only [true_and, Bool.true_and, Bool.false_and, Bool.and_true, Bool.and_false, Bool.true_or, Bool.false_or, reduceIte, Bool.false_eq_true, *]; done) | (simp only [true_and, reduceIte, Bool.false_eq_true, *] <;> rfl) | (simp [true_and]; done) | (simp_all [true_and]; done) | omega))
  rw [h1] at c0
  obtain ⟨hl, hs, _⟩ := right_get h1
  have hs' : ∀ i, i < l.length → (l.getD i zeroWl).sk.length < 1000000 := fun i hi => by have := hs i hi; omega
  have c1 := pick_ok l x.p x.a (by omega) hs'
  have c2 := rpick_ok l x.p x.a (by omega) hs'
  have c3 := qualified_ok l x.nm x.p x.a (by omega) hs'
  have c4 := rqualified_ok l x.nm x.p x.a (by omega) hs'
  clear h1 hs hs' hl
  generalize pickN l x.p x.a = N at *
  generalize pickB l x.p x.a = B at *
  generalize qualB l x.nm x.p x.a = Q at *
  have e1 : (N.toList == N.toList) = true := by simp
  have e2 : (B == B) = true := by simp
  have e3 : (Q == Q) = true := by simp
  refine fn_pure Try.F4 (Nat.le_of_ble_eq_true rfl) ?_; unfold Try.ac4
  repeat' (first
    | (apply Awp.sreg; (case hn => (simp only [List.length_cons, List.length_nil, Nat.reduceAdd] <;> rfl)))
    | (apply Awp.sdraw; (case hn => (simp only [List.length_cons, List.length_nil, Nat.reduceAdd] <;> rfl)))
    | (refine st_nil ?_)
    | (apply st_a; (case hc => rfl); (case he => (simp only [go_sem, *] <;> rfl)); (case hu => (simp only [updL_nil, updL_cons] <;> rfl)); (case hp => first | trivial))
    | (apply st_c; (case hc => (simp only [go_sem, *] <;> rfl)); (case hl => (simp only [go_sem, *] <;> rfl)); (case hn => (simp only [go_sem, *] <;> rfl)); (case hp => first | exact c0 | (have hXz := c0; simp only [go_sem, *] at hXz; exact hXz)))
    | (apply st_c; (case hc => (simp only [go_sem, *] <;> rfl)); (case hl => (simp only [go_sem, *] <;> rfl)); (case hn => (simp only [go_sem, *] <;> rfl)); (case hp => first | exact c1 | (have hXz := c1; simp only [go_sem, *] at hXz; exact hXz)))
    | (apply st_c; (case hc => (simp only [go_sem, *] <;> rfl)); (case hl => (simp only [go_sem, *] <;> rfl)); (case hn => (simp only [go_sem, *] <;> rfl)); (case hp => first | exact c2 | (have hXz := c2; simp only [go_sem, *] at hXz; exact hXz)))
    | (refine Awp.ret ?_; try simp only [go_sem, *])
    | (refine Awp.skip ?_; try simp only [go_sem, *])
    | (apply Awp.cond; (case hc => (simp only [go_sem, *] <;> rfl)); all_goals (intro hg; (try simp only [Bool.not_true, Bool.not_false, reduceCtorEq] at hg)))
    | refine Awp.seq ?_
    | (apply sl_a; (case hc => rfl); (case he => (simp only [go_sem, *] <;> rfl)); (case hu => (simp only [updL_nil, updL_cons] <;> rfl)); (case hl => (simp only [List.map_cons, List.map_nil] <;> rfl)); (case hp => first | trivial))
    | (apply sl_ga; (case hb => rfl); (case hv => (simp only [go_sem, *] <;> rfl)); (case he => (simp only [go_sem, *] <;> rfl)); (case hu => (simp only [updL_nil, updL_cons] <;> rfl)); (case hl => (simp only [List.map_cons, List.map_nil] <;> rfl)); (case hp => first | trivial))
    | (apply sl_c; (case hc => (simp only [go_sem, *] <;> rfl)); (case hl => (simp only [go_sem, *] <;> rfl)); (case hn => (simp only [go_sem, *] <;> rfl)); (case hp => first | exact c3 | (have hXz := c3; simp only [go_sem, *] at hXz; exact hXz)); (case hd => first | exact .inl rfl | exact .inr (.v _) | exact .inr .any | exact .inr .nils); (case hm => first | decide | (simp; done)))
    | (apply sl_c; (case hc => (simp only [go_sem, *] <;> rfl)); (case hl => (simp only [go_sem, *] <;> rfl)); (case hn => (simp only [go_sem, *] <;> rfl)); (case hp => first | exact c4 | (have hXz := c4; simp only [go_sem, *] at hXz; exact hXz)); (case hd => first | exact .inl rfl | exact .inr (.v _) | exact .inr .any | exact .inr .nils); (case hm => first | decide | (simp; done)))
    | (apply sl_cg; (case hop => rfl); (case hv => (simp only [go_sem, *] <;> rfl)); (case hc => (simp only [go_sem, *] <;> rfl)); (case hl => (simp only [go_sem, *] <;> rfl)); (case hn => (simp only [go_sem, *] <;> rfl)); (case hp => first | exact awake_ok | (have hXz := awake_ok; simp only [go_sem, *] at hXz; exact hXz)); (case hd => first | exact .inl rfl | exact .inr (.v _) | exact .inr .any | exact .inr .nils); (case hm => first | decide | (simp; done)))
    | (refine sl_nil (And.intro (by first | exact drawOk_of (by decide +kernel) | (simp only [List.map_cons, List.map_nil]; exact drawOk_of (by decide +kernel)) | decide) ?_)))
  all_goals repeat' (first | exact Lower.bool (by first | rfl | (simp only [true_and, Bool.true_and, Bool.false_and, Bool.and_true, Bool.and_false, Bool.true_or, Bool.false_or, reduceIte, Bool.false_eq_true, *]; done) | (simp only [true_and, reduceIte, Bool.false_eq_true, *] <;> rfl) | (simp [true_and]; done) | (simp_all [true_and]; done) | omega))
theorem lapsesB_ok (l : List Wl) (p : ByteArray) (w : Sp) : Pure Try.prog 6 [.sl (wls l), .v (.string p), w.av] (.v (.bool true)) := by
  have c0 := right_ok l
  cases h1 : rightB l
  · rw [h1] at c0
    refine fn_pure Try.F6 (Nat.le_of_ble_eq_true rfl) ?_; unfold Try.ac6
    repeat' (first
    | (apply Awp.sreg; (case hn => (simp only [List.length_cons, List.length_nil, Nat.reduceAdd] <;> rfl)))
    | (refine st_nil ?_)
    | (apply st_a; (case hc => rfl); (case he => (simp only [go_sem, *] <;> rfl)); (case hu => (simp only [updL_nil, updL_cons] <;> rfl)); (case hp => first | trivial))
    | (apply st_c; (case hc => (simp only [go_sem, *] <;> rfl)); (case hl => (simp only [go_sem, *] <;> rfl)); (case hn => (simp only [go_sem, *] <;> rfl)); (case hp => first | exact c0 | (have hXz := c0; simp only [go_sem, *] at hXz; exact hXz)))
    | (apply st_c; (case hc => (simp only [go_sem, *] <;> rfl)); (case hl => (simp only [go_sem, *] <;> rfl)); (case hn => (simp only [go_sem, *] <;> rfl)); (case hp => first | exact awake_ok | (have hXz := awake_ok; simp only [go_sem, *] at hXz; exact hXz)))
    | (refine Awp.ret ?_; try simp only [go_sem, *])
    | (apply Awp.cond; (case hc => (simp only [go_sem, *] <;> rfl)); all_goals (intro hg; (try simp only [Bool.not_true, Bool.not_false, reduceCtorEq] at hg)))
    | refine Awp.seq ?_)
    all_goals repeat' (first | exact Lower.bool (by first | rfl | (simp only [true_and, Bool.true_and, Bool.false_and, Bool.and_true, Bool.and_false, Bool.true_or, Bool.false_or, reduceIte, Bool.false_eq_true, *]; done) | (simp only [true_and, reduceIte, Bool.false_eq_true, *] <;> rfl) | (simp [true_and]; done) | (simp_all [true_and]; done) | omega))
  rw [h1] at c0
  obtain ⟨hl, hs, _⟩ := right_get h1
  have hs' : ∀ i, i < l.length → (l.getD i zeroWl).sk.length ≤ 40 := fun i hi => by have := hs i hi; omega
  have c1 := lapses_ok l p w (by omega) hs'
  have c2 := rlapses_ok l p w (by omega) hs'
  have hbl := busyL_len p l (get_all hs')
  have hml := minus_len [w] (busyL l p)
  have hE : (lapE l p w).length < 1000000 := by
    unfold lapE
    simp only [List.length_cons, List.length_nil] at hml
    omega
  have c3 := samesp_ok (lapE l p w) hE
  clear h1 hs hs' hl hbl hml hE
  generalize lapE l p w = E at *
  refine fn_pure Try.F6 (Nat.le_of_ble_eq_true rfl) ?_; unfold Try.ac6
  repeat' (first
    | (apply Awp.sreg; (case hn => (simp only [List.length_cons, List.length_nil, Nat.reduceAdd] <;> rfl)))
    | (apply Awp.sdraw; (case hn => (simp only [List.length_cons, List.length_nil, Nat.reduceAdd] <;> rfl)))
    | (refine st_nil ?_)
    | (apply st_a; (case hc => rfl); (case he => (simp only [go_sem, *] <;> rfl)); (case hu => (simp only [updL_nil, updL_cons] <;> rfl)); (case hp => first | trivial))
    | (apply st_c; (case hc => (simp only [go_sem, *] <;> rfl)); (case hl => (simp only [go_sem, *] <;> rfl)); (case hn => (simp only [go_sem, *] <;> rfl)); (case hp => first | exact c0 | (have hXz := c0; simp only [go_sem, *] at hXz; exact hXz)))
    | (refine Awp.ret ?_; try simp only [go_sem, *])
    | (refine Awp.skip ?_; try simp only [go_sem, *])
    | (apply Awp.cond; (case hc => (simp only [go_sem, *] <;> rfl)); all_goals (intro hg; (try simp only [Bool.not_true, Bool.not_false, reduceCtorEq] at hg)))
    | refine Awp.seq ?_
    | (apply sl_a; (case hc => rfl); (case he => (simp only [go_sem, *] <;> rfl)); (case hu => (simp only [updL_nil, updL_cons] <;> rfl)); (case hl => (simp only [List.map_cons, List.map_nil] <;> rfl)); (case hp => first | trivial))
    | (apply sl_cod; (case hc => (simp only [go_sem, *] <;> rfl)); (case hl => (simp only [go_sem, *] <;> rfl)); (case hn => (simp only [go_sem, *] <;> rfl)); (case hp => first | exact c1 | (have hXz := c1; simp only [go_sem, *] at hXz; exact hXz)); (case hd => first | exact sps_dry _ | exact ints_dry _ | (repeat' (first | exact Dry.v _ | exact Dry.any | exact Dry.nils | exact Dry.slE | refine Dry.agg ?_ | refine Dry.tup ?_ | (refine List.forall_mem_cons.2 (And.intro ?_ ?_)) | (intro cQ hQ; cases hQ; done)))); (case hm => first | decide | (simp; done)))
    | (apply sl_cod; (case hc => (simp only [go_sem, *] <;> rfl)); (case hl => (simp only [go_sem, *] <;> rfl)); (case hn => (simp only [go_sem, *] <;> rfl)); (case hp => first | exact c2 | (have hXz := c2; simp only [go_sem, *] at hXz; exact hXz)); (case hd => first | exact sps_dry _ | exact ints_dry _ | (repeat' (first | exact Dry.v _ | exact Dry.any | exact Dry.nils | exact Dry.slE | refine Dry.agg ?_ | refine Dry.tup ?_ | (refine List.forall_mem_cons.2 (And.intro ?_ ?_)) | (intro cQ hQ; cases hQ; done)))); (case hm => first | decide | (simp; done)))
    | (apply sl_c; (case hc => (simp only [go_sem, *] <;> rfl)); (case hl => (simp only [go_sem, *] <;> rfl)); (case hn => (simp only [go_sem, *] <;> rfl)); (case hp => first | exact c3 | (have hXz := c3; simp only [go_sem, *] at hXz; exact hXz)); (case hd => first | exact .inl rfl | exact .inr (.v _) | exact .inr .any | exact .inr .nils); (case hm => first | decide | (simp; done)))
    | (apply sl_cg; (case hop => rfl); (case hv => (simp only [go_sem, *] <;> rfl)); (case hc => (simp only [go_sem, *] <;> rfl)); (case hl => (simp only [go_sem, *] <;> rfl)); (case hn => (simp only [go_sem, *] <;> rfl)); (case hp => first | exact awake_ok | (have hXz := awake_ok; simp only [go_sem, *] at hXz; exact hXz)); (case hd => first | exact .inl rfl | exact .inr (.v _) | exact .inr .any | exact .inr .nils); (case hm => first | decide | (simp; done)))
    | (refine sl_nil (And.intro (by first | exact drawOk_of (by decide +kernel) | (simp only [List.map_cons, List.map_nil]; exact drawOk_of (by decide +kernel)) | decide) ?_)))
  all_goals repeat' (first | exact Lower.bool (by first | rfl | (simp only [true_and, Bool.true_and, Bool.false_and, Bool.and_true, Bool.and_false, Bool.true_or, Bool.false_or, reduceIte, Bool.false_eq_true, *]; done) | (simp only [true_and, reduceIte, Bool.false_eq_true, *] <;> rfl) | (simp [true_and]; done) | (simp_all [true_and]; done) | omega))
end Go.Proofs
end
section
set_option linter.unusedVariables false
set_option linter.unusedSimpArgs false
namespace Go.Ab
open Go.ChangeShapes Go.WideShapes Go.RowKit

theorem Keeps.below {W W' : World} (h : Keeps W W') : Below W.heap.size W W' := ⟨h.os, h.tape, h.out, h.size, h.heap⟩

section
variable {H : Type} {enc : TypeId × Value → H} {P : Program}

theorem trodAll_keeps (hl : laidOutB P = true) {W W' : World} {sp : Nat → Bool} (hb : Below W.heap.size W W') :
    ∀ {ts : List TypeId} {vs : List Value} {ds : List (DataW H)} {ps : List MemPlace}, (∀ t ∈ ts, P.readableRec t = true ∧ t < P.types.size) → (∀ x ∈ ps, x.block < W.heap.size) → (∀ x ∈ ps, sp x.block = true) →
      DataW.TrodAll enc P W 0 (fun _ => true) true ts vs ds ps → DataW.TrodAll enc P W' 0 sp true ts vs ds ps
  | [], _, _, _, _, _, _, h => by
    obtain ⟨rfl, rfl, rfl⟩ := trodAll_nil h
    exact trodAll_mk0
  | t :: ts, _, _, _, hts, hlt, hsp, h => by
    obtain ⟨v, vs, d, ds, a, b, rfl, rfl, rfl, h1, h2⟩ := trodAll_cons h
    obtain ⟨hr, hrow⟩ := hts t (List.mem_cons.2 (.inl rfl))
    refine trodAll_cons_mk (WideElems.Trod_stays hl hr hrow h1 (fun x hx => hb.same (hlt x ?_)) (fun x hx => hsp x ?_)) (trodAll_keeps hl hb (fun u hu => hts u (List.mem_cons.2 (.inr hu))) (fun x hx => hlt x ?_) (fun x hx => hsp x ?_) h2)
    all_goals simp [hx]

theorem post_true {f : Func} {s : ChangeSpec} {apart fresh handsOn again : Bool} {W W' : World} {args : Array Value} {ds gs : List (DataW H)} {before : List MemPlace} {tb : TypeId}
    (hl : laidOutB P = true) (htb' : (f.params.toList.all fun t => P.readableRec t && decide (t < P.types.size)) = true) (hrt : f.resultTypes = #[tb]) (htb : P.underlying tb = some .bool) (hs : s.vars = [])
    (hW : DataW.Whole enc P f.params.toList s.vars apart W args.toList ds gs before) (hb : Below W.heap.size W W')
    (hf : (s.fn H (ds ++ gs)).results = [.lit (.bool true)] ∧ (s.fn H (ds ++ gs)).args = ds ∧ (s.fn H (ds ++ gs)).vars = []) :
    s.post enc P f apart fresh handsOn again W args (.bool true) W' := by
  have hts : ∀ t ∈ f.params.toList, P.readableRec t = true ∧ t < P.types.size := fun t ht => by simpa using List.all_eq_true.1 htb' t ht
  have hW' := hW
  obtain ⟨p, q, hA, hV, hpq, hz, hn⟩ := hW
  have hV0 : gs = [] ∧ q = [] := by rw [hs] at hV; exact trodVars_none hV
  obtain ⟨rfl, rfl⟩ := hV0
  obtain rfl : before = p := by simpa using hpq
  obtain ⟨f1, f2, f3⟩ := hf
  have hlt : ∀ x ∈ before, x.block < W.heap.size := fun x hx => hW'.lt x hx
  have hargs : ∀ sp : Nat → Bool, (∀ x ∈ before, sp x.block = true) → DataW.TrodAll enc P W' 0 sp true f.params.toList args.toList (s.fn H (ds ++ [])).args before := fun sp hsp => by
    rw [f2]; exact trodAll_keeps hl hb hts hlt hsp hA
  have hvars : ∀ sp : Nat → Bool, DataW.TrodVars enc P W' sp s.vars (s.fn H (ds ++ [])).vars [] := fun sp => by rw [f3, hs]; rfl
  have hres : ∀ (b : Nat) (sp : Nat → Bool) (hd : Bool), DataW.TrodAll enc P W' b sp hd f.resultTypes.toList ((Value.bool true).resultList f.resultTypes.size) (s.fn H (ds ++ [])).results [] := fun b sp hd => by
    rw [f1, hrt]; exact trodAll_cons_mk (shut_bool htb _) trodAll_mk0
  have hold : ∀ x ∈ before, (fun b => decide (b < W.heap.size)) x.block = true := fun x hx => by simpa using hlt x hx
  refine ⟨ds, [], before, [], before, [], hW', hres _ _ _, hargs _ hold, hvars _, World.keptBut_mono (fun x hx => ⟨hx, .inr (by simpa using hx)⟩) (hb.frame (· ∈ before)), fun _ => ⟨?_, _, _, ([] ++ before) ++ [], ⟨[] ++ before, [], trodAll_append (hargs _ fun _ _ => rfl) (hres _ _ _), hvars _, rfl, ?_, ?_⟩, ?_⟩⟩
  · exact ok_one hrt rfl (okWide_bool_mk htb _)
  · intro b off hp
    have hp' : MemPlace.cell b off ∈ before := by simpa using hp
    rw [hb.frozen (p := ⟨b, off, none⟩) (hlt _ hp')]
    exact hz b off hp'
  · intro ha
    simpa using hn ha
  · intro x hx _
    simpa using hx

theorem pargs1 {w : World} {a0 : AV} {c0 : Value} (h0 : PureV (fun g => g < w.heap.size ∧ True) w a0 c0) : PArgs (fun _ => True) w [a0] [c0] :=
  ⟨rfl, fun j hj => by match j, hj with | 0, _ => exact h0⟩
theorem pargs2 {w : World} {a0 a1 : AV} {c0 c1 : Value} (h0 : PureV (fun g => g < w.heap.size ∧ True) w a0 c0) (h1 : PureV (fun g => g < w.heap.size ∧ True) w a1 c1) : PArgs (fun _ => True) w [a0, a1] [c0, c1] :=
  ⟨rfl, fun j hj => by match j, hj with | 0, _ => exact h0 | 1, _ => exact h1⟩
theorem pargs3 {w : World} {a0 a1 a2 : AV} {c0 c1 c2 : Value} (h0 : PureV (fun g => g < w.heap.size ∧ True) w a0 c0) (h1 : PureV (fun g => g < w.heap.size ∧ True) w a1 c1) (h2 : PureV (fun g => g < w.heap.size ∧ True) w a2 c2) : PArgs (fun _ => True) w [a0, a1, a2] [c0, c1, c2] :=
  ⟨rfl, fun j hj => by match j, hj with | 0, _ => exact h0 | 1, _ => exact h1 | 2, _ => exact h2⟩
theorem pargs4 {w : World} {a0 a1 a2 a3 : AV} {c0 c1 c2 c3 : Value} (h0 : PureV (fun g => g < w.heap.size ∧ True) w a0 c0) (h1 : PureV (fun g => g < w.heap.size ∧ True) w a1 c1) (h2 : PureV (fun g => g < w.heap.size ∧ True) w a2 c2) (h3 : PureV (fun g => g < w.heap.size ∧ True) w a3 c3) : PArgs (fun _ => True) w [a0, a1, a2, a3] [c0, c1, c2, c3] :=
  ⟨rfl, fun j hj => by match j, hj with | 0, _ => exact h0 | 1, _ => exact h1 | 2, _ => exact h2 | 3, _ => exact h3⟩

/-- A contract that says 'true', at a call whose arguments read so: the row's 'post'. -/
theorem calls_true {f : Func} {fid : FuncId} {s : ChangeSpec} {apart fresh handsOn again : Bool} {W : World} {asz : List AV} {cs : List Value} {ds gs : List (DataW H)} {before : List MemPlace} {tb : TypeId}
    (hl : laidOutB P = true) (htb' : (f.params.toList.all fun t => P.readableRec t && decide (t < P.types.size)) = true) (hrt : f.resultTypes = #[tb]) (htb : P.underlying tb = some .bool) (hs : s.vars = [])
    (hW : DataW.Whole enc P f.params.toList s.vars apart W cs.toArray.toList ds gs before) (hf : (s.fn H (ds ++ gs)).results = [.lit (.bool true)] ∧ (s.fn H (ds ++ gs)).args = ds ∧ (s.fn H (ds ++ gs)).vars = [])
    (hc : Pure P fid asz (.v (.bool true))) (ha : PArgs (fun _ => True) W asz cs) :
    Calls P fid cs.toArray W fun e W' => ∃ v, e = .returned v ∧ s.post enc P f apart fresh handsOn again W cs.toArray v W' := by
  refine (hc.2 _ W cs ha).mono fun e W' ⟨c, he, hk, hv⟩ => ?_
  obtain rfl : c = .bool true := by cases hv; rfl
  exact ⟨_, he, post_true hl htb' hrt htb hs hW hk.below hf⟩
end
end Go.Ab
end
section
set_option linter.unusedVariables false
set_option linter.unusedSimpArgs false
namespace Go.Ab
open Go.ChangeShapes Go.WideShapes Go.RowKit

/-- Fields that lie one behind the other. -/
def tiledTo (P : Program) (off : Nat) : List Field → Nat → Bool
  | [], e => off == e
  | f :: fs, e => f.offset == off && tiledTo P (off + P.cellsOf f.type) fs e

def readsTy (P : Program) : Nat → TypeId → Bool
  | 0, _ => false
  | n + 1, t => match P.underlying t with
    | some (.int _) | some .bool | some .string => P.cellsOf t == 1
    | some (.struct fs) => tiledTo P 0 fs.toList (P.cellsOf t) && fs.toList.all fun f => readsTy P n f.type
    | some (.slice e) => P.cellsOf t == 1 && decide (0 < P.cellsOf e) && readsTy P n e
    | some (.array k e) => P.cellsOf t == k * P.cellsOf e && readsTy P n e
    | _ => false

def FieldsShape (S : TypeId → List AV → Prop) : List TypeId → List AV → Prop
  | [], asz => asz = []
  | t :: ts, asz => ∃ p q, asz = p ++ q ∧ S t p ∧ FieldsShape S ts q

/-- The cells of a value of a type. -/
def Shape (P : Program) : Nat → TypeId → List AV → Prop
  | 0, _, _ => False
  | n + 1, t, asz => match P.underlying t with
    | some (.int k) => ∃ i, asz = [.v (.int k i)] ∧ (Lit.int k i).wf = true
    | some .bool => ∃ b, asz = [.v (.bool b)]
    | some .string => ∃ s : ByteArray, asz = [.v (.string s)] ∧ s.size ≤ maxLen
    | some (.struct fs) => FieldsShape (Shape P n) (fs.toList.map (·.type)) asz
    | some (.slice e) => ∃ es, asz = [.sl es] ∧ es.length ≤ maxLen ∧ ∀ r ∈ es, Shape P n e r
    | some (.array k e) => ∃ rs : List (List AV), asz = rs.flatten ∧ rs.length = k ∧ ∀ r ∈ rs, Shape P n e r
    | _ => False

theorem av_append_left {p q : List AV} {j : Nat} (h : j < p.length) : av (p ++ q) j = av p j := by
  simp [av, List.getD_eq_getElem?_getD, List.getElem?_append_left h]
theorem av_append_right {p q : List AV} {j : Nat} (h : p.length ≤ j) : av (p ++ q) j = av q (j - p.length) := by
  simp [av, List.getD_eq_getElem?_getD, List.getElem?_append_right h]
theorem cv_piece {cs : List Value} {o k j : Nat} (h : j < k) : cv ((cs.drop o).take k) j = cv cs (o + j) := by
  simp [cv, List.getD_eq_getElem?_getD, List.getElem?_take_of_lt h, List.getElem?_drop]

theorem lists {α : Type} {Q : Nat → α → Prop} : ∀ (n : Nat), (∀ i, i < n → ∃ a, Q i a) → ∃ l : List α, l.length = n ∧ ∀ i a, l[i]? = some a → Q i a
  | 0, _ => ⟨[], rfl, fun i a h => by simp at h⟩
  | n + 1, h => by
    obtain ⟨l, hl, hq⟩ := lists n fun i hi => h i (by omega)
    obtain ⟨a, ha⟩ := h n (by omega)
    refine ⟨l ++ [a], by simp [hl], fun i b hb => ?_⟩
    rcases Nat.lt_or_ge i n with hi | hi
    · rw [List.getElem?_append_left (by omega)] at hb; exact hq i b hb
    · rw [List.getElem?_append_right (by omega)] at hb
      by_cases e : i - l.length = 0
      · rw [e] at hb
        obtain rfl : a = b := by simpa using hb
        obtain rfl : i = n := by omega
        exact ha
      · rw [List.getElem?_eq_none (by simp; omega)] at hb; simp at hb

def CellsOk (w : World) (asz : List AV) (cs : List Value) (o : Nat) : Prop :=
  ∀ j, j < asz.length → PureV (fun g => g < w.heap.size) w (av asz j) (cv cs (o + j)) ∧ (cv cs (o + j)).oneCell' = true

theorem CellsOk.append {w : World} {p q : List AV} {cs : List Value} {o : Nat} (h1 : CellsOk w p cs o) (h2 : CellsOk w q cs (o + p.length)) : CellsOk w (p ++ q) cs o := by
  intro j hj
  rcases Nat.lt_or_ge j p.length with h | h
  · rw [av_append_left h]; exact h1 j h
  · rw [av_append_right h]
    have := h2 (j - p.length) (by simp at hj; omega)
    rwa [show o + p.length + (j - p.length) = o + j by omega] at this

section
variable {H : Type} {enc : TypeId × Value → H} {P : Program} {w : World} {spare : Nat → Bool} {held : Bool}

theorem read_fields {S : TypeId → List AV → Prop} {cs : List Value} : ∀ (fs : List Field) (o e : Nat), tiledTo P o fs e = true → e ≤ cs.length →
    (∀ f ∈ fs, ∃ asz, S f.type asz ∧ asz.length = P.cellsOf f.type ∧ CellsOk w asz cs f.offset) → ∃ asz, FieldsShape S (fs.map (·.type)) asz ∧ o + asz.length = e ∧ CellsOk w asz cs o
  | [], o, e, ht, _, _ => ⟨[], rfl, by simpa [tiledTo] using ht, fun j hj => by simp at hj⟩
  | f :: fs, o, e, ht, he, hf => by
    simp only [tiledTo, Bool.and_eq_true, beq_iff_eq] at ht
    obtain ⟨p, hp, hpl, hpc⟩ := hf f (List.mem_cons.2 (.inl rfl))
    obtain ⟨q, hq, hql, hqc⟩ := read_fields fs _ e ht.2 he fun g hg => hf g (List.mem_cons.2 (.inr hg))
    rw [ht.1] at hpc
    rw [← hpl] at hqc hql
    exact ⟨p ++ q, ⟨p, q, rfl, hp, hq⟩, by simp; omega, hpc.append hqc⟩

theorem read_rows {S : List AV → Prop} {cs : List Value} {sz : Nat} : ∀ (k o : Nat),
    (∀ i, i < k → ∃ asz, S asz ∧ asz.length = sz ∧ CellsOk w asz cs (o + i * sz)) → ∃ rs : List (List AV), rs.length = k ∧ (∀ r ∈ rs, S r) ∧ rs.flatten.length = k * sz ∧ CellsOk w rs.flatten cs o
  | 0, o, _ => ⟨[], rfl, by simp, by simp, fun j hj => by simp at hj⟩
  | k + 1, o, h => by
    obtain ⟨p, hp, hpl, hpc⟩ := h 0 (by omega)
    obtain ⟨rs, hl, hs, hf, hc⟩ := read_rows k (o + sz) fun i hi => by
      obtain ⟨asz, h1, h2, h3⟩ := h (i + 1) (by omega)
      exact ⟨asz, h1, h2, by rwa [show o + sz + i * sz = o + (i + 1) * sz by rw [Nat.add_mul]; omega]⟩
    refine ⟨p :: rs, by simp [hl], fun r hr => ?_, by simp [hf, hpl, Nat.add_mul, Nat.add_comm], ?_⟩
    · rcases List.mem_cons.1 hr with rfl | hr
      · exact hp
      · exact hs r hr
    · simp only [List.flatten_cons]
      refine CellsOk.append (by simpa using hpc) (by rw [hpl]; exact hc)

theorem read_ty : ∀ (n : Nat) (t : TypeId), readsTy P n t = true → ∀ {fuel : Nat} {cs : List Value} {x : DataW H × List MemPlace}, DataW.trod enc P w 0 spare held fuel t cs = some x →
    cs.length = P.cellsOf t ∧ ∃ asz, Shape P n t asz ∧ asz.length = cs.length ∧ CellsOk w asz cs 0
  | 0, t, ht, _, _, _, _ => by simp [readsTy] at ht
  | n + 1, t, ht, fuel, cs, x, h => by
    unfold readsTy at ht
    unfold Shape
    split at ht
    · rename_i k hu
      obtain ⟨i, rfl, _, hw⟩ := DataW.trod_int hu h
      exact ⟨by simpa using (by simpa using ht : P.cellsOf t = 1).symm, _, ⟨i, rfl, hw⟩, rfl, fun j hj => by match j, hj with | 0, _ => exact ⟨.v _, rfl⟩⟩
    · rename_i hu
      obtain ⟨b, rfl, _⟩ := DataW.trod_bool hu h
      exact ⟨by simpa using (by simpa using ht : P.cellsOf t = 1).symm, _, ⟨b, rfl⟩, rfl, fun j hj => by match j, hj with | 0, _ => exact ⟨.v _, rfl⟩⟩
    · rename_i hu
      obtain ⟨s, rfl, _, hw⟩ := DataW.trod_string hu h
      exact ⟨by simpa using (by simpa using ht : P.cellsOf t = 1).symm, _, ⟨s, rfl, hw⟩, rfl, fun j hj => by match j, hj with | 0, _ => exact ⟨.v _, rfl⟩⟩
    · rename_i fs hu
      simp only [Bool.and_eq_true, List.all_eq_true] at ht
      obtain ⟨xs, m, _, _, hl, hlen, hf⟩ := DataW.trod_struct hu h
      refine ⟨hl, ?_⟩
      obtain ⟨asz, h1, h2, h3⟩ := read_fields (S := Shape P n) (w := w) (cs := cs) fs.toList 0 (P.cellsOf t) ht.1 (by omega) fun f hfm => by
        obtain ⟨i, hi, hfi⟩ := List.getElem_of_mem hfm
        have hi' : i < fs.size := by simpa using hi
        have e1 : fs[i]? = some f := by rw [Array.getElem?_eq_getElem hi']; simpa using hfi
        have h4 := hf i f e1
        obtain ⟨y, hy⟩ : ∃ y, xs[i]? = some y := ⟨_, List.getElem?_eq_getElem (by omega)⟩
        rw [hy] at h4
        obtain ⟨k1, asz, k2, k3, k4⟩ := read_ty n f.type (ht.2 f hfm) h4
        refine ⟨asz, k2, by omega, fun j hj => ?_⟩
        have := k4 j hj
        rw [Nat.zero_add, cv_piece (by omega)] at this
        exact this
      exact ⟨asz, h1, by omega, h3⟩
    · rename_i e hu
      simp only [Bool.and_eq_true, decide_eq_true_eq, beq_iff_eq] at ht
      rcases DataW.trod_slice hu h with ⟨rfl, _⟩ | ⟨a, len, cap, elems, rest, m, _, rfl, _, hb, hl, hm, hlen, hel, _, _⟩
      · exact ⟨by simpa using ht.1.1.symm, _, ⟨[], rfl, by simp, by simp⟩, rfl, fun j hj => by match j, hj with | 0, _ => exact ⟨.slE none 0 (by simp), rfl⟩⟩
      · refine ⟨by simpa using ht.1.1.symm, ?_⟩
        have each : ∀ i, i < len → ∃ asz : List AV × List Value, Shape P n e asz.1 ∧ asz.1.length = P.cellsOf e ∧ (∀ j, j < P.cellsOf e → w.cell? ((a.add (i * P.cellsOf e)).add j) = some (cv asz.2 j)) ∧ CellsOk w asz.1 asz.2 0 := by
          intro i hi
          have h4 := hel i hi
          obtain ⟨y, hy⟩ : ∃ y, elems[i]? = some y := ⟨_, List.getElem?_eq_getElem (by omega)⟩
          rw [hy, Option.bind_eq_some_iff] at h4
          obtain ⟨cs', hc, ht'⟩ := h4
          obtain ⟨k1, asz, k2, k3, k4⟩ := read_ty n e ht.2 ht'
          obtain ⟨_, hcl, hca⟩ := World.cells?_some hc
          refine ⟨(asz, cs'), k2, by simp; omega, fun j hj => ?_, k4⟩
          rw [hca j hj]
          have : j < cs'.length := by omega
          simp [cv, List.getD_eq_getElem?_getD, this]
        obtain ⟨l, hll, hlq⟩ := lists len each
        by_cases h0 : len = 0
        · subst h0
          exact ⟨_, ⟨[], rfl, by simp, by simp⟩, rfl, fun j hj => by match j, hj with | 0, _ => exact ⟨.slE (some a) cap hm, rfl⟩⟩
        · have hg0 := (hlq 0 _ (List.getElem?_eq_getElem (by omega))).2.2.1 0 ht.1.2
          obtain ⟨g, off, q⟩ := a
          have hq : q = none ∧ g < w.heap.size := by
            have e0 : ((Addr.mk g off q).add (0 * P.cellsOf e)).add 0 = ⟨g, off, q⟩ := by simp [Addr.add]
            rw [e0] at hg0
            unfold World.cell? at hg0
            cases hg : w.heap[g]? with
            | none => simp [hg] at hg0
            | some o =>
              refine ⟨?_, (Array.getElem?_eq_some_iff.1 hg).1⟩
              cases q with
              | none => rfl
              | some v => cases o <;> simp [hg] at hg0
          obtain ⟨rfl, hlt⟩ := hq
          have hes : (l.map (·.1)).length = len := by simp [hll]
          have at_ : ∀ i (hi : i < len), ∃ asz, l[i]? = some asz ∧ (l.map (·.1)).getD i [] = asz.1 ∧ (fun i j => cv ((l.map (·.2)).getD i []) j) i = cv asz.2 := by
            intro i hi
            refine ⟨l[i]'(by omega), List.getElem?_eq_getElem (by omega), ?_, ?_⟩
            · simp [List.getD_eq_getElem?_getD, List.getElem?_eq_getElem (show i < l.length by omega)]
            · funext j
              simp [List.getD_eq_getElem?_getD, List.getElem?_eq_getElem (show i < l.length by omega)]
          have hp := PureV.slC (st := fun g => g < w.heap.size) (w := w) (l.map (·.1)) g off cap (P.cellsOf e) (fun i j => cv ((l.map (·.2)).getD i []) j) (by omega) hm ht.1.2 (fun e' => by rw [e'] at hes; simp at hes; omega)
            (fun r hr => by
              obtain ⟨asz, has, rfl⟩ := List.mem_map.1 hr
              obtain ⟨i, hi⟩ := List.getElem?_of_mem has
              exact (hlq i asz hi).2.1)
            hlt
            (fun i j hi hj => by
              obtain ⟨asz, ha, e1, e2⟩ := at_ i (by omega)
              have h5 := (hlq i asz ha).2.2.1 j hj
              have h6 := ((hlq i asz ha).2.2.2 j (by rw [(hlq i asz ha).2.1]; exact hj)).2
              rw [Nat.zero_add] at h6
              have e3 : cv ((l.map (·.2)).getD i []) j = cv asz.2 j := congrFun e2 j
              show w.cell? _ = some (cv ((l.map (·.2)).getD i []) j) ∧ (cv ((l.map (·.2)).getD i []) j).oneCell' = true
              rw [e3]
              refine ⟨?_, h6⟩
              rw [← h5]
              congr 1
              simp only [Addr.add]
              split <;> split <;> simp_all <;> omega)
            (fun i j hi hj => by
              obtain ⟨asz, ha, e1, e2⟩ := at_ i (by omega)
              have h6 := ((hlq i asz ha).2.2.2 j (by rw [(hlq i asz ha).2.1]; exact hj)).1
              rw [Nat.zero_add] at h6
              have e3 : cv ((l.map (·.2)).getD i []) j = cv asz.2 j := congrFun e2 j
              show PureV _ w (av ((l.map (·.1)).getD i []) j) (cv ((l.map (·.2)).getD i []) j)
              rw [e1, e3]
              exact h6)
          rw [hes] at hp
          refine ⟨[.sl (l.map (·.1))], ⟨_, rfl, by omega, fun r hr => ?_⟩, rfl, fun j hj => by match j, hj with | 0, _ => exact ⟨hp, rfl⟩⟩
          obtain ⟨asz, has, rfl⟩ := List.mem_map.1 hr
          obtain ⟨i, hi⟩ := List.getElem?_of_mem has
          exact (hlq i asz hi).1
    · rename_i k e hu
      simp only [Bool.and_eq_true, beq_iff_eq] at ht
      obtain ⟨xs, m, _, _, hl, hlen, hf⟩ := DataW.trod_array hu h
      refine ⟨hl, ?_⟩
      obtain ⟨rs, h1, h2, h3, h4⟩ := read_rows (S := Shape P n e) (w := w) (cs := cs) (sz := P.cellsOf e) k 0 fun i hi => by
        have h4 := hf i hi
        obtain ⟨y, hy⟩ : ∃ y, xs[i]? = some y := ⟨_, List.getElem?_eq_getElem (by omega)⟩
        rw [hy] at h4
        obtain ⟨k1, asz, k2, k3, k4⟩ := read_ty n e ht.2 h4
        refine ⟨asz, k2, by omega, fun j hj => ?_⟩
        have := k4 j hj
        rw [Nat.zero_add, cv_piece (by omega)] at this
        rwa [Nat.zero_add]
      exact ⟨rs.flatten, ⟨rs, rfl, h1, h2⟩, by omega, h4⟩
    · simp at ht

/-- A struct among the arguments. -/
theorem arg_struct {t : TypeId} {fs : Array Field} {r : Reach} {b0 : Nat} {v : Value} {d : DataW H} {p : List MemPlace} (n : Nat) (hu : P.underlying t = some (.struct fs)) (ht : readsTy P n t = true)
    (hval : Value.okWide P w r b0 t v) (hd : DataW.Trod enc P w 0 spare held t v d p) : ∃ asz, Shape P n t asz ∧ PureV (fun g => g < w.heap.size ∧ True) w (.agg asz) v := by
  obtain ⟨fuel, h⟩ := hd
  unfold Value.okWide at hval
  rw [hu] at hval
  obtain ⟨cs, rfl, _, _⟩ := hval
  obtain ⟨_, asz, h1, h2, h3⟩ := read_ty n t ht h
  refine ⟨asz, h1, ?_⟩
  have e : cs = cs.toList.toArray := by simp
  have h2 : asz.length = cs.toList.length := h2
  rw [e]
  refine .agg _ cs.toList h2 (fun u hu => ?_) (fun j hj => ?_)
  · obtain ⟨j, hj, rfl⟩ := List.getElem_of_mem hu
    have := (h3 j (by omega)).2
    rw [Nat.zero_add] at this
    have e2 : cv (Value.agg cs).cells.toList j = cs.toList[j] := by show cv cs.toList j = _; unfold cv; rw [List.getD_eq_getElem?_getD, List.getElem?_eq_getElem hj]; rfl
    rw [e2] at this
    exact this
  · have := (h3 j hj).1
    rw [Nat.zero_add] at this
    exact this.mono fun g hg => ⟨⟨hg, trivial⟩, rfl⟩

/-- A slice among the arguments. -/
theorem arg_slice {t e : TypeId} {r : Reach} {b0 : Nat} {v : Value} {d : DataW H} {p : List MemPlace} (n : Nat) (hu : P.underlying t = some (.slice e)) (ht : readsTy P n t = true)
    (hval : Value.okWide P w r b0 t v) (hd : DataW.Trod enc P w 0 spare held t v d p) : ∃ a, Shape P n t [a] ∧ PureV (fun g => g < w.heap.size ∧ True) w a v := by
  obtain ⟨fuel, h⟩ := hd
  obtain ⟨a0, len, cap, rfl⟩ := okWide_slice hu hval
  obtain ⟨_, asz, h1, h2, h3⟩ := read_ty n t ht h
  match asz, h2 with
  | [a], _ =>
  exact ⟨a, h1, (h3 0 (by simp)).1.mono fun g hg => ⟨⟨hg, trivial⟩, rfl⟩⟩

theorem arg_int {t : TypeId} {k : IntKind} {r : Reach} {b0 : Nat} {v : Value} {d : DataW H} {p : List MemPlace} (hu : P.underlying t = some (.int k))
    (hval : Value.okWide P w r b0 t v) (hd : DataW.Trod enc P w 0 spare held t v d p) : ∃ i, (Lit.int k i).wf = true ∧ PureV (fun g => g < w.heap.size ∧ True) w (.v (.int k i)) v := by
  obtain ⟨i, rfl, _, _, hw⟩ := open_int hu hval hd
  exact ⟨i, hw, .v _⟩
theorem arg_bool {t : TypeId} {r : Reach} {b0 : Nat} {v : Value} {d : DataW H} {p : List MemPlace} (hu : P.underlying t = some .bool)
    (hval : Value.okWide P w r b0 t v) (hd : DataW.Trod enc P w 0 spare held t v d p) : ∃ b, PureV (fun g => g < w.heap.size ∧ True) w (.v (.bool b)) v := by
  obtain ⟨b, rfl, _, _⟩ := open_bool hu hval hd
  exact ⟨b, .v _⟩
theorem arg_string {t : TypeId} {r : Reach} {b0 : Nat} {v : Value} {d : DataW H} {p : List MemPlace} (hu : P.underlying t = some .string)
    (hval : Value.okWide P w r b0 t v) (hd : DataW.Trod enc P w 0 spare held t v d p) : ∃ s : ByteArray, s.size ≤ maxLen ∧ PureV (fun g => g < w.heap.size ∧ True) w (.v (.string s)) v := by
  obtain ⟨s, rfl, _, _, hw⟩ := Go.ChangeMaps.open_string hu hval hd
  exact ⟨s, hw, .v _⟩
end

/-- The cells that a datum lays. -/
def laidVals : Nat → DataW Unit → List Value
  | 0, _ => []
  | _ + 1, .lit (.int k n) => [.int k n]
  | _ + 1, .lit (.bool b) => [.bool b]
  | _ + 1, .lit (.string s) => [.string ⟨s.toArray⟩]
  | n + 1, .agg xs => xs.flatMap (laidVals n)
  | _ + 1, _ => []

theorem map_shape {α : Type} {f : α → List AV} : ∀ {es : List (List AV)}, (∀ r ∈ es, ∃ x : α, r = f x) → ∃ l : List α, es = l.map f
  | [], _ => ⟨[], rfl⟩
  | r :: es, h => by
    obtain ⟨x, rfl⟩ := h r (List.mem_cons.2 (.inl rfl))
    obtain ⟨l, rfl⟩ := map_shape (es := es) fun q hq => h q (List.mem_cons.2 (.inr hq))
    exact ⟨x :: l, rfl⟩
end Go.Ab
end
section
set_option linter.unusedVariables false
set_option linter.unusedSimpArgs false
namespace Go.Proofs
open Go Go.Ab Go.ChangeShapes Go.WideShapes Go.ChangeAt Go.RowKit
set_option maxRecDepth 100000
set_option linter.unusedSimpArgs false
set_option linter.unusedVariables false
theorem rest_laid : laidOutB Try.prog = true := by kernel_rfl
theorem rest_own : ownKnob Try.prog.godebug = none := by kernel_rfl
theorem shape_sk {qs : List AV} (h : Shape Try.prog 2 50 qs) : ∃ x : Sk, AV.agg qs = x.av := by
  unfold Shape at h
  rw [Try.underlying50] at h
  simp only [List.map_cons, List.map_nil, FieldsShape] at h
  obtain ⟨_, _, rfl, h0, _, _, rfl, h1, _, _, rfl, h2, rfl⟩ := h
  unfold Shape at h0 h1 h2
  simp only [Try.underlying3, Try.underlying9] at h0 h1 h2
  obtain ⟨x0, rfl, _⟩ := h0
  obtain ⟨x1, rfl, _⟩ := h1
  obtain ⟨x2, rfl, _⟩ := h2
  exact ⟨⟨x0, x1, x2⟩, rfl⟩
theorem shape_sks {qs : List AV} (h : Shape Try.prog 3 45 qs) : ∃ l : List Sk, qs = [.sl (sks l)] := by
  unfold Shape at h
  rw [Try.underlying45] at h
  obtain ⟨es, rfl, _, he⟩ := h
  obtain ⟨l, rfl⟩ := map_shape (f := Sk.cells) fun q hq => by
    obtain ⟨x, hx⟩ := shape_sk (he q hq)
    refine ⟨x, ?_⟩
    have : AV.agg q = .agg x.cells := hx
    injection this
  exact ⟨l, rfl⟩
theorem shape_wl {qs : List AV} (h : Shape Try.prog 4 47 qs) : ∃ x : Wl, AV.agg qs = x.av := by
  unfold Shape at h
  rw [Try.underlying47] at h
  simp only [List.map_cons, List.map_nil, FieldsShape] at h
  obtain ⟨_, _, rfl, h0, _, _, rfl, h1, rfl⟩ := h
  obtain ⟨l, rfl⟩ := shape_sks h1
  unfold Shape at h0
  simp only [Try.underlying9] at h0
  obtain ⟨x0, rfl, _⟩ := h0
  exact ⟨⟨x0, l⟩, rfl⟩
theorem shape_wls {qs : List AV} (h : Shape Try.prog 5 22 qs) : ∃ l : List Wl, qs = [.sl (wls l)] := by
  unfold Shape at h
  rw [Try.underlying22] at h
  obtain ⟨es, rfl, _, he⟩ := h
  obtain ⟨l, rfl⟩ := map_shape (f := Wl.cells) fun q hq => by
    obtain ⟨x, hx⟩ := shape_wl (he q hq)
    refine ⟨x, ?_⟩
    have : AV.agg q = .agg x.cells := hx
    injection this
  exact ⟨l, rfl⟩
theorem shape_span {qs : List AV} (h : Shape Try.prog 2 37 qs) : ∃ x : Sp, AV.agg qs = x.av := by
  unfold Shape at h
  rw [Try.underlying37] at h
  simp only [List.map_cons, List.map_nil, FieldsShape] at h
  obtain ⟨_, _, rfl, h0, _, _, rfl, h1, rfl⟩ := h
  unfold Shape at h0 h1
  simp only [Try.underlying3] at h0 h1
  obtain ⟨x0, rfl, _⟩ := h0
  obtain ⟨x1, rfl, _⟩ := h1
  exact ⟨⟨x0, x1⟩, rfl⟩
theorem shape_ask {qs : List AV} (h : Shape Try.prog 2 28 qs) : ∃ x : Ak, AV.agg qs = x.av := by
  unfold Shape at h
  rw [Try.underlying28] at h
  simp only [List.map_cons, List.map_nil, FieldsShape] at h
  obtain ⟨_, _, rfl, h0, _, _, rfl, h1, _, _, rfl, h2, _, _, rfl, h3, rfl⟩ := h
  unfold Shape at h0 h1 h2 h3
  simp only [Try.underlying3, Try.underlying9] at h0 h1 h2 h3
  obtain ⟨x0, rfl, _⟩ := h0
  obtain ⟨x1, rfl, _⟩ := h1
  obtain ⟨x2, rfl, _⟩ := h2
  obtain ⟨x3, rfl, _⟩ := h3
  exact ⟨⟨x0, x1, x2, x3⟩, rfl⟩
section
variable {H : Type} {enc : TypeId × Value → H} {w : World} {spare : Nat → Bool} {held : Bool} {r : Reach} {b0 : Nat} {v : Value} {d : DataW H} {p : List MemPlace}
theorem arg_wls (hval : Value.okWide Try.prog w r b0 22 v) (hd : DataW.Trod enc Try.prog w 0 spare held 22 v d p) : ∃ l : List Wl, PureV (fun g => g < w.heap.size ∧ True) w (.sl (wls l)) v := by
  obtain ⟨a, hs, hp⟩ := arg_slice 5 Try.underlying22 (by kernel_rfl) hval hd
  obtain ⟨l, e⟩ := shape_wls hs
  obtain rfl : a = .sl (wls l) := by simpa using e
  exact ⟨l, hp⟩
theorem arg_sp (hval : Value.okWide Try.prog w r b0 37 v) (hd : DataW.Trod enc Try.prog w 0 spare held 37 v d p) : ∃ x : Sp, PureV (fun g => g < w.heap.size ∧ True) w x.av v := by
  obtain ⟨qs, hs, hp⟩ := arg_struct 2 Try.underlying37 (by kernel_rfl) hval hd
  obtain ⟨x, e⟩ := shape_span hs
  exact ⟨x, e ▸ hp⟩
theorem arg_ask (hval : Value.okWide Try.prog w r b0 28 v) (hd : DataW.Trod enc Try.prog w 0 spare held 28 v d p) : ∃ x : Ak, PureV (fun g => g < w.heap.size ∧ True) w x.av v := by
  obtain ⟨qs, hs, hp⟩ := arg_struct 2 Try.underlying28 (by kernel_rfl) hval hd
  obtain ⟨x, e⟩ := shape_ask hs
  exact ⟨x, e ▸ hp⟩
end
/-- The settled world. -/
noncomputable def laidWorld (os : Os) : World := World.holding Try.prog os ⟨#[], #[], []⟩
end Go.Proofs
end
