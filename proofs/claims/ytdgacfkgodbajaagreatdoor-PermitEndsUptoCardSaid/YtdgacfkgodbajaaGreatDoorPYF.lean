import Derived.Test.YtdgacfkgodbajaaGreatDoorPYE
section
set_option linter.unusedVariables false
set_option linter.unusedSimpArgs false
namespace Go.Proofs
open Go Go.Ab
set_option maxHeartbeats 8000000
set_option maxRecDepth 100000
attribute [local irreducible] Awp aops aopsL Go.Ab.Pure PureOwn

theorem leS_yes {a b : ByteArray} (h : strLess a b = false) : leS b a = true := by
  cases hb : leS b a
  · rw [leS_no hb] at h; cases h
  · rfl
theorem str_ord2 {a b : ByteArray} (h : strLess a b = true) : strLess b a = false ∧ (b.toList == a.toList) = false := by
  constructor
  · cases hs : strLess b a
    · rfl
    · have := strLess_trans h hs
      rw [strLess_irrefl] at this
      cases this
  · exact str_ne h
def ascS (l : List Te) (i n : Nat) : AState := mkS [(0, .sl (tes l)), (3, .v (.int .i64 i)), (4, .v (.int .i64 ((n + 1 : Nat) : Int)))] []
def ascS0 (l : List Te) (i : Nat) : AState := mkS [(0, .sl (tes l)), (3, .v (.int .i64 i))] []
theorem asc_in (l : List Te) (i : Nat) (hi : i < l.length) (hq : (l.getD i zeroTe).af.length < 100000) {Q : AExit → Nat → AState → Prop}
    (hQ : ascB (l.getD i zeroTe).af = true → ∀ nx S, Ghost 0 nx S 80 (ascS0 l i) → Q (.exit 2) nx S)
    (hR : ascB (l.getD i zeroTe).af = false → ∀ nx S, S.t 2 = .v (.int .i64 11) → Q .ret nx S) :
    Awp Tryz.prog 62 0 (Tryz.ac49.sub [1, 0, 1, 0, 0, 1, 0, 0, 1, 1, 1, 0]) 80 (ascS l i 0) Q := by
  refine Awp.loop (fun n : Nat => ∀ j, j < n → badA (l.getD i zeroTe).af j = false) 80 (fun n => ascS l i n) (fun n => (l.getD i zeroTe).af.length - n) 0 (by simp) (Ghost.refl _ _ _) ?_
  intro n hj
  have hi' : (i : Int) < l.length := by omega
  have hat := tes_at l i hi
  have hz : ((l.getD i zeroTe).cells).length = 3 := rfl
  generalize l.getD i zeroTe = q at *
  have hln : (strs q.af).length = q.af.length := by simp [strs]
  unfold ascS ascS0 at *
  by_cases hlt : n + 1 < q.af.length
  · have hlt' : ((n + 1 : Nat) : Int) < q.af.length := by omega
    have hlt2 : (n : Int) < q.af.length := by omega
    have hw : IntKind.i64.wrap (((n + 1 : Nat) : Int) - 1) = (n : Int) := by rw [wrap_i64 (by omega) (by omega)]; omega
    have hw2 : IntKind.i64.wrap (((n + 1 : Nat) : Int) + 1) = ((n + 1 + 1 : Nat) : Int) := by rw [wrap_i64 (by omega) (by omega)]; omega
    have hat1 := strs_at0 q.af n (by omega)
    have hat2 := strs_at0 q.af (n + 1) hlt
    have h0 : (0 : Int) ≤ ((n + 1 : Nat) : Int) := by omega
    have h0' : (0 : Int) ≤ (n : Int) := by omega
    have hn1 : n < q.af.length := by omega
    have hb : badA q.af n = !strLess (q.af.getD n zeroB) (q.af.getD (n + 1) zeroB) := rfl
    cases hB : badA q.af n
    · have hnx := ltSucc hj hB
      rw [hb] at hB
      clear hj hb hQ hR
      have hB : strLess (q.af.getD n zeroB) (q.af.getD (n + 1) zeroB) = true := by simpa using hB
      obtain ⟨o1, o2⟩ := str_ord2 (a := q.af.getD n zeroB) (b := q.af.getD (n + 1) zeroB) hB
      generalize q.af.getD (n + 1) zeroB = u at *
      generalize q.af.getD n zeroB = v at *
      generalize hm : (n + 1 : Nat) = m at *
      repeat' (first
 | (apply Awp.sreg; (case hn => (simp only [List.length_cons, List.length_nil, Nat.reduceAdd] <;> rfl)))
 | (apply Awp.sdraw; (case hn => (simp only [List.length_cons, List.length_nil, Nat.reduceAdd] <;> rfl)))
 | (refine st_nil ?_)
 | (apply st_a; (case hc => rfl); (case he => (simp only [go_sem, *] <;> rfl)); (case hu => (simp only [updL_nil, updL_cons] <;> rfl)); (case hp => first | trivial | omega))
 | (apply Awp.reg; (case hn => (simp only [List.length_cons, List.length_nil, Nat.reduceAdd] <;> rfl)))
 | (refine Awp.skip ?_; try simp only [go_sem, *])
 | refine Awp.block ?_
 | (apply Awp.cond; (case hc => (simp only [go_sem, *] <;> rfl)); all_goals (intro hg; (try simp only [Bool.not_true, Bool.not_false, reduceCtorEq] at hg)))
 | refine Awp.seq ?_
 | (apply sl_a; (case hc => rfl); (case he => (simp only [go_sem, *] <;> rfl)); (case hu => (simp only [updL_nil, updL_cons] <;> rfl)); (case hl => (simp only [List.map_cons, List.map_nil] <;> rfl)); (case hp => first | trivial | omega))
 | (refine sl_nil (And.intro (by first | exact drawOk_of (by decide +kernel) | (simp only [List.map_cons, List.map_nil]; exact drawOk_of (by decide +kernel)) | decide) ?_)))
      all_goals (try simp only [loopQ_normal])
      all_goals (refine ⟨n + 1, by first | exact hnx | (rw [hm]; exact hnx), by omega, ?_⟩; rw [hm]; clear hnx; (apply Ghost.mk [] []; (case hdead => rfl); (case hinj => rfl); (case hV => (simp only [go_sem, *]) <;> (repeat' (first | skip; done))); (case hB => (simp only [go_sem, *]) <;> (repeat' (first | skip; done)))))
    · have hf := hR (ascB_f hlt hB)
      rw [hb] at hB
      clear hj hb hQ hR
      have hB : strLess (q.af.getD n zeroB) (q.af.getD (n + 1) zeroB) = false := by simpa using hB
      have hor : (strLess (q.af.getD (n + 1) zeroB) (q.af.getD n zeroB) || ((q.af.getD (n + 1) zeroB).toList == (q.af.getD n zeroB).toList)) = true := leS_yes hB
      generalize q.af.getD (n + 1) zeroB = u at *
      generalize q.af.getD n zeroB = v at *
      generalize hm : (n + 1 : Nat) = m at *
      repeat' (first
 | (apply Awp.sreg; (case hn => (simp only [List.length_cons, List.length_nil, Nat.reduceAdd] <;> rfl)))
 | (apply Awp.sdraw; (case hn => (simp only [List.length_cons, List.length_nil, Nat.reduceAdd] <;> rfl)))
 | (refine st_nil ?_)
 | (apply st_a; (case hc => rfl); (case he => (simp only [go_sem, *] <;> rfl)); (case hu => (simp only [updL_nil, updL_cons] <;> rfl)); (case hp => first | trivial | omega))
 | (refine Awp.ret ?_; try simp only [go_sem, *])
 | (refine Awp.skip ?_; try simp only [go_sem, *])
 | refine Awp.block ?_
 | (apply Awp.cond; (case hc => (simp only [go_sem, *] <;> rfl)); all_goals (intro hg; (try simp only [Bool.not_true, Bool.not_false, reduceCtorEq] at hg)))
 | refine Awp.seq ?_
 | (apply sl_a; (case hc => rfl); (case he => (simp only [go_sem, *] <;> rfl)); (case hu => (simp only [updL_nil, updL_cons] <;> rfl)); (case hl => (simp only [List.map_cons, List.map_nil] <;> rfl)); (case hp => first | trivial | omega))
 | (refine sl_nil (And.intro (by first | exact drawOk_of (by decide +kernel) | (simp only [List.map_cons, List.map_nil]; exact drawOk_of (by decide +kernel)) | decide) ?_)))
      all_goals (refine hf _ _ ?_; rfl)
  · have hlt' : ¬ ((n + 1 : Nat) : Int) < q.af.length := by omega
    have hf := hQ (ascB_t (by omega) hj)
    clear hj hQ hR
    generalize hm : (n + 1 : Nat) = m at *
    repeat' (first
 | (apply Awp.sreg; (case hn => (simp only [List.length_cons, List.length_nil, Nat.reduceAdd] <;> rfl)))
 | (refine st_nil ?_)
 | (apply st_a; (case hc => rfl); (case he => (simp only [go_sem, *] <;> rfl)); (case hu => (simp only [updL_nil, updL_cons] <;> rfl)); (case hp => first | trivial | omega))
 | (refine Awp.exit ?_; try simp only [go_sem, *])
 | (apply Awp.cond; (case hc => (simp only [go_sem, *] <;> rfl)); all_goals (intro hg; (try simp only [Bool.not_true, Bool.not_false, reduceCtorEq] at hg)))
 | refine Awp.seq ?_)
    all_goals (refine hf _ _ ?_; clear hf; (apply Ghost.mk [] []; (case hdead => rfl); (case hinj => rfl); (case hV => (simp only [go_sem, *]) <;> (repeat' (first | skip; done))); (case hB => (simp only [go_sem, *]) <;> (repeat' (first | skip; done)))))
theorem rnames_ok (l : List Te) (hl : l.length < 10000) (hid : ∀ i, i < l.length → (l.getD i zeroTe).id.size < 1000000 ∧ (l.getD i zeroTe).af.length < 100000) : Pure Tryz.prog 49 [.sl (tes l)] (.v (.int .i64 (firstE (chk1 l) l.length))) := by
  refine fn_pure Tryz.F49 (Nat.le_of_ble_eq_true rfl) ?_; unfold Tryz.ac49
  repeat' (first
 | (apply Awp.sreg; (case hn => (simp only [List.length_cons, List.length_nil, Nat.reduceAdd] <;> rfl)))
 | (refine st_nil ?_)
 | (apply st_a; (case hc => rfl); (case he => (simp only [go_sem, *] <;> rfl)); (case hu => (simp only [updL_nil, updL_cons] <;> rfl)); (case hp => first | trivial))
 | refine Awp.block ?_
 | refine Awp.seq ?_)
  refine Awp.loop (fun i : Nat => i ≤ l.length ∧ ∀ j, j < i → chk1 l j = 0) 60 (fun i => mkS [(0, .sl (tes l)), (3, .v (.int .i64 i))] []) (fun i => l.length - i) 0 (by simp) ?_ ?_
  · clear hid
    (apply Ghost.mk [] []; (case hdead => rfl); (case hinj => rfl); (case hV => (simp only [go_sem, *]) <;> (repeat' (first | exact View.int (by first | rfl | omega | (simp; done) | (rw [wrap_i64] <;> (try simp only [Int.natCast_add]) <;> omega) | (simp [*]; done))))); (case hB => (simp only [go_sem, *]) <;> (repeat' (first | skip; done))))
  · intro i ⟨hi, hj⟩
    by_cases hlt : i < l.length
    · have hlt' : (i : Int) < l.length := by omega
      have hat := tes_at l i hlt
      have hz : ((l.getD i zeroTe).cells).length = 3 := rfl
      have c0 := risid_ok (l.getD i zeroTe).id (hid i hlt).1
      have hbad : ∀ {e : Int}, chk1 l i = e → e ≠ 0 → firstE (chk1 l) l.length = e := fun h he => by
        rw [← h, firstE_bad hlt (by rw [h]; exact he) hj]
      have hs : chk1 l i = if !idB (l.getD i zeroTe).id then 6 else if prevT l i then 11 else if !ascB (l.getD i zeroTe).af then 11 else 0 := rfl
      have ho : prevT l i = (decide (0 < i) && leS (l.getD i zeroTe).id (l.getD (i - 1) zeroTe).id) := rfl
      have hafi := (hid i hlt).2
      have hnx := fun h => ltSucc (P := fun j => chk1 l j = 0) hj h
      clear hid hj
      cases h1 : idB (l.getD i zeroTe).id
      · rw [h1] at hs c0
        have hf := hbad (e := 6) (by rw [hs]; rfl) (by decide)
        rw [hf]
        clear hbad hs ho hf hnx
        repeat' (first
 | (apply Awp.sreg; (case hn => (simp only [List.length_cons, List.length_nil, Nat.reduceAdd] <;> rfl)))
 | (refine st_nil ?_)
 | (apply st_a; (case hc => rfl); (case he => (simp only [go_sem, *] <;> rfl)); (case hu => (simp only [updL_nil, updL_cons] <;> rfl)); (case hp => first | trivial | omega))
 | (apply st_c; (case hc => (simp only [go_sem, *] <;> rfl)); (case hl => (simp only [go_sem, *] <;> rfl)); (case hn => (simp only [go_sem, *] <;> rfl)); (case hp => first | exact c0 | (have hXz := c0; simp only [go_sem, *] at hXz; exact hXz)))
 | (refine Awp.ret ?_; try simp only [go_sem, *])
 | (refine Awp.skip ?_; try simp only [go_sem, *])
 | refine Awp.block ?_
 | (apply Awp.cond; (case hc => (simp only [go_sem, *] <;> rfl)); all_goals (intro hg; (try simp only [Bool.not_true, Bool.not_false, reduceCtorEq] at hg)))
 | refine Awp.seq ?_)
        all_goals repeat' (first | exact Lower.int (by first | rfl | (simp only [true_and, Bool.true_and, Bool.false_and, Bool.and_true, Bool.and_false, Bool.true_or, Bool.false_or, reduceIte, Bool.false_eq_true, *]; done) | (simp only [true_and, reduceIte, Bool.false_eq_true, *] <;> rfl) | (simp [true_and]; done) | (simp_all [true_and]; done) | omega))
      rw [h1] at hs c0
      rw [if_neg (by decide)] at hs
      have hbad' : Hid (∀ {e : Int}, chk1 l i = e → e ≠ 0 → firstE (chk1 l) l.length = e) := hbad
      by_cases h0 : 0 < i
      · have hp : decide ((0 : Int) < (i : Int)) = true := decide_eq_true (by omega)
        have hw := pred_wrap h0 (by omega)
        have hatp := tes_at l (i - 1) (by omega)
        have hzp : ((l.getD (i - 1) zeroTe).cells).length = 3 := rfl
        have hlp : ((i - 1 : Nat) : Int) < l.length := by omega
        have hp0 : (0 : Int) ≤ ((i - 1 : Nat) : Int) := by omega
        rw [decide_eq_true h0, Bool.true_and] at ho
        cases h3 : leS (l.getD i zeroTe).id (l.getD (i - 1) zeroTe).id
        · rw [ho, h3, if_neg (by decide)] at hs
          replace hs : Hid (chk1 l i = if (!ascB (l.getD i zeroTe).af) = true then 11 else 0) := hs
          replace hnx : Hid (chk1 l i = 0 → ∀ j, j < i + 1 → chk1 l j = 0) := hnx
          clear hbad ho
          unfold leS at h3
          rw [Bool.or_eq_false_iff] at h3
          obtain ⟨h3, h4⟩ := h3
          repeat' (first
 | (apply Awp.sreg; (case hn => (simp only [List.length_cons, List.length_nil, Nat.reduceAdd] <;> rfl)))
 | (apply Awp.sdraw; (case hn => (simp only [List.length_cons, List.length_nil, Nat.reduceAdd] <;> rfl)))
 | (refine st_nil ?_)
 | (apply st_a; (case hc => rfl); (case he => (simp only [go_sem, *] <;> rfl)); (case hu => (simp only [updL_nil, updL_cons] <;> rfl)); (case hp => first | trivial | omega))
 | (apply st_c; (case hc => (simp only [go_sem, *] <;> rfl)); (case hl => (simp only [go_sem, *] <;> rfl)); (case hn => (simp only [go_sem, *] <;> rfl)); (case hp => first | exact c0 | (have hXz := c0; simp only [go_sem, *] at hXz; exact hXz)))
 | (refine Awp.skip ?_; try simp only [go_sem, *])
 | refine Awp.block ?_
 | (apply Awp.cond; (case hc => (simp only [go_sem, *] <;> rfl)); all_goals (intro hg; (try simp only [Bool.not_true, Bool.not_false, reduceCtorEq] at hg)))
 | refine Awp.seq ?_
 | (apply sl_a; (case hc => rfl); (case he => (simp only [go_sem, *] <;> rfl)); (case hu => (simp only [updL_nil, updL_cons] <;> rfl)); (case hl => (simp only [List.map_cons, List.map_nil] <;> rfl)); (case hp => first | trivial))
 | (apply sl_ga; (case hb => rfl); (case hv => (simp only [go_sem, *] <;> rfl)); (case he => (simp only [go_sem, *] <;> rfl)); (case hu => (simp only [updL_nil, updL_cons] <;> rfl)); (case hl => (simp only [List.map_cons, List.map_nil] <;> rfl)); (case hp => first | trivial | omega))
 | (refine sl_nil (And.intro (by first | exact drawOk_of (by decide +kernel) | (simp only [List.map_cons, List.map_nil]; exact drawOk_of (by decide +kernel)) | decide) ?_)))
          replace hs : chk1 l i = if (!ascB (l.getD i zeroTe).af) = true then 11 else 0 := hs
          replace hnx : chk1 l i = 0 → ∀ j, j < i + 1 → chk1 l j = 0 := hnx
          all_goals (refine Awp.ghost (nx' := 80) (S' := ascS l i 0) ?_ (asc_in l i hlt hafi (fun ha nx S gg => ?_) (fun ha nx S hS => ?_)))
          · unfold ascS
            clear c0 hs hbad' hnx
            (apply Ghost.mk [] []; (case hdead => rfl); (case hinj => rfl); (case hV => (simp only [go_sem, *]) <;> (repeat' (first | exact View.int (by first | rfl | omega | (simp; done) | (rw [wrap_i64] <;> (try simp only [Int.natCast_add]) <;> omega) | (simp [*]; done))))); (case hB => (simp only [go_sem, *]) <;> (repeat' (first | skip; done))))
          · rw [ha, if_neg (by decide)] at hs
            have hnx := hnx hs
            simp only [go_sem]
            refine Awp.ghost gg ?_
            unfold ascS0
            clear gg c0 hs hbad' ha
            repeat' (first
 | (refine st_nil ?_)
 | (apply st_a; (case hc => rfl); (case he => (simp only [go_sem, *] <;> rfl)); (case hu => (simp only [updL_nil, updL_cons] <;> rfl)); (case hp => first | trivial))
 | (apply Awp.reg; (case hn => (simp only [List.length_cons, List.length_nil, Nat.reduceAdd] <;> rfl))))
            all_goals (refine ⟨i + 1, ⟨by omega, hnx⟩, by omega, ?_⟩; clear hnx; (apply Ghost.mk [] []; (case hdead => rfl); (case hinj => rfl); (case hV => (simp only [go_sem, *]) <;> (repeat' (first | exact View.int (by first | rfl | omega | (simp; done) | (rw [wrap_i64] <;> (try simp only [Int.natCast_add]) <;> omega) | (simp [*]; done))))); (case hB => (simp only [go_sem, *]) <;> (repeat' (first | skip; done)))))
          · rw [ha, if_pos (by decide)] at hs
            have hbad : ∀ {e : Int}, chk1 l i = e → e ≠ 0 → firstE (chk1 l) l.length = e := hbad'
            have hf := hbad (e := 11) hs (by decide)
            rw [hf]
            simp only [go_sem]
            first
              | (rw [hS]; exact Lower.int rfl)
              | (refine ⟨.inr rfl, ?_⟩; rw [hS]; exact Lower.int rfl)
        · rw [ho, h3] at hs
          have hf := hbad (e := 11) (by rw [hs]; rfl) (by decide)
          rw [hf]
          clear hbad hs ho hf hnx hbad'
          unfold leS at h3
          repeat' (first
 | (apply Awp.sreg; (case hn => (simp only [List.length_cons, List.length_nil, Nat.reduceAdd] <;> rfl)))
 | (apply Awp.sdraw; (case hn => (simp only [List.length_cons, List.length_nil, Nat.reduceAdd] <;> rfl)))
 | (refine st_nil ?_)
 | (apply st_a; (case hc => rfl); (case he => (simp only [go_sem, *] <;> rfl)); (case hu => (simp only [updL_nil, updL_cons] <;> rfl)); (case hp => first | trivial | omega))
 | (apply st_c; (case hc => (simp only [go_sem, *] <;> rfl)); (case hl => (simp only [go_sem, *] <;> rfl)); (case hn => (simp only [go_sem, *] <;> rfl)); (case hp => first | exact c0 | (have hXz := c0; simp only [go_sem, *] at hXz; exact hXz)))
 | (refine Awp.ret ?_; try simp only [go_sem, *])
 | (refine Awp.skip ?_; try simp only [go_sem, *])
 | refine Awp.block ?_
 | (apply Awp.cond; (case hc => (simp only [go_sem, *] <;> rfl)); all_goals (intro hg; (try simp only [Bool.not_true, Bool.not_false, reduceCtorEq] at hg)))
 | refine Awp.seq ?_
 | (apply sl_a; (case hc => rfl); (case he => (simp only [go_sem, *] <;> rfl)); (case hu => (simp only [updL_nil, updL_cons] <;> rfl)); (case hl => (simp only [List.map_cons, List.map_nil] <;> rfl)); (case hp => first | trivial))
 | (apply sl_ga; (case hb => rfl); (case hv => (simp only [go_sem, *] <;> rfl)); (case he => (simp only [go_sem, *] <;> rfl)); (case hu => (simp only [updL_nil, updL_cons] <;> rfl)); (case hl => (simp only [List.map_cons, List.map_nil] <;> rfl)); (case hp => first | trivial | omega))
 | (refine sl_nil (And.intro (by first | exact drawOk_of (by decide +kernel) | (simp only [List.map_cons, List.map_nil]; exact drawOk_of (by decide +kernel)) | decide) ?_)))
          all_goals (try (exfalso; simp only [Bool.or_true, Bool.true_or, Bool.or_false, Bool.false_or, Bool.and_true, Bool.true_and, Bool.and_false, Bool.false_and, reduceCtorEq, *] at h3; done))
          all_goals repeat' (first | exact Lower.int (by first | rfl | (simp only [true_and, Bool.true_and, Bool.false_and, Bool.and_true, Bool.and_false, Bool.true_or, Bool.false_or, reduceIte, Bool.false_eq_true, *]; done) | (simp only [true_and, reduceIte, Bool.false_eq_true, *] <;> rfl) | (simp [true_and]; done) | (simp_all [true_and]; done) | omega))
      · have hp : decide ((0 : Int) < (i : Int)) = false := decide_eq_false (by omega)
        rw [decide_eq_false h0, Bool.false_and] at ho
        rw [ho, if_neg (by decide)] at hs
        replace hs : Hid (chk1 l i = if (!ascB (l.getD i zeroTe).af) = true then 11 else 0) := hs
        replace hnx : Hid (chk1 l i = 0 → ∀ j, j < i + 1 → chk1 l j = 0) := hnx
        clear hbad ho
        repeat' (first
 | (apply Awp.sreg; (case hn => (simp only [List.length_cons, List.length_nil, Nat.reduceAdd] <;> rfl)))
 | (apply Awp.sdraw; (case hn => (simp only [List.length_cons, List.length_nil, Nat.reduceAdd] <;> rfl)))
 | (refine st_nil ?_)
 | (apply st_a; (case hc => rfl); (case he => (simp only [go_sem, *] <;> rfl)); (case hu => (simp only [updL_nil, updL_cons] <;> rfl)); (case hp => first | trivial | omega))
 | (apply st_c; (case hc => (simp only [go_sem, *] <;> rfl)); (case hl => (simp only [go_sem, *] <;> rfl)); (case hn => (simp only [go_sem, *] <;> rfl)); (case hp => first | exact c0 | (have hXz := c0; simp only [go_sem, *] at hXz; exact hXz)))
 | (refine Awp.skip ?_; try simp only [go_sem, *])
 | refine Awp.block ?_
 | (apply Awp.cond; (case hc => (simp only [go_sem, *] <;> rfl)); all_goals (intro hg; (try simp only [Bool.not_true, Bool.not_false, reduceCtorEq] at hg)))
 | refine Awp.seq ?_
 | (apply sl_a; (case hc => rfl); (case he => (simp only [go_sem, *] <;> rfl)); (case hu => (simp only [updL_nil, updL_cons] <;> rfl)); (case hl => (simp only [List.map_cons, List.map_nil] <;> rfl)); (case hp => first | trivial))
 | (apply sl_gn; (case hv => (simp only [go_sem, *] <;> rfl)); (case hbw => rfl))
 | (refine sl_nil (And.intro (by first | exact drawOk_of (by decide +kernel) | (simp only [List.map_cons, List.map_nil]; exact drawOk_of (by decide +kernel)) | decide) ?_)))
        replace hs : chk1 l i = if (!ascB (l.getD i zeroTe).af) = true then 11 else 0 := hs
        replace hnx : chk1 l i = 0 → ∀ j, j < i + 1 → chk1 l j = 0 := hnx
        all_goals (refine Awp.ghost (nx' := 80) (S' := ascS l i 0) ?_ (asc_in l i hlt hafi (fun ha nx S gg => ?_) (fun ha nx S hS => ?_)))
        · unfold ascS
          clear c0 hs hbad' hnx
          (apply Ghost.mk [] []; (case hdead => rfl); (case hinj => rfl); (case hV => (simp only [go_sem, *]) <;> (repeat' (first | exact View.int (by first | rfl | omega | (simp; done) | (rw [wrap_i64] <;> (try simp only [Int.natCast_add]) <;> omega) | (simp [*]; done))))); (case hB => (simp only [go_sem, *]) <;> (repeat' (first | skip; done))))
        · rw [ha, if_neg (by decide)] at hs
          have hnx := hnx hs
          simp only [go_sem]
          refine Awp.ghost gg ?_
          unfold ascS0
          clear gg c0 hs hbad' ha
          repeat' (first
 | (refine st_nil ?_)
 | (apply st_a; (case hc => rfl); (case he => (simp only [go_sem, *] <;> rfl)); (case hu => (simp only [updL_nil, updL_cons] <;> rfl)); (case hp => first | trivial))
 | (apply Awp.reg; (case hn => (simp only [List.length_cons, List.length_nil, Nat.reduceAdd] <;> rfl))))
          all_goals (refine ⟨i + 1, ⟨by omega, hnx⟩, by omega, ?_⟩; clear hnx; (apply Ghost.mk [] []; (case hdead => rfl); (case hinj => rfl); (case hV => (simp only [go_sem, *]) <;> (repeat' (first | exact View.int (by first | rfl | omega | (simp; done) | (rw [wrap_i64] <;> (try simp only [Int.natCast_add]) <;> omega) | (simp [*]; done))))); (case hB => (simp only [go_sem, *]) <;> (repeat' (first | skip; done)))))
        · rw [ha, if_pos (by decide)] at hs
          have hbad : ∀ {e : Int}, chk1 l i = e → e ≠ 0 → firstE (chk1 l) l.length = e := hbad'
          have hf := hbad (e := 11) hs (by decide)
          rw [hf]
          simp only [go_sem]
          first
            | (rw [hS]; exact Lower.int rfl)
            | (refine ⟨.inr rfl, ?_⟩; rw [hS]; exact Lower.int rfl)
    · have hlt' : ¬ (i : Int) < l.length := by omega
      have hf := firstE_end (Nat.le_of_not_lt hlt) hj
      rw [hf]
      clear hj hf hid
      repeat' (first
 | (apply Awp.sreg; (case hn => (simp only [List.length_cons, List.length_nil, Nat.reduceAdd] <;> rfl)))
 | (refine st_nil ?_)
 | (apply st_a; (case hc => rfl); (case he => (simp only [go_sem, *] <;> rfl)); (case hu => (simp only [updL_nil, updL_cons] <;> rfl)); (case hp => first | trivial))
 | (refine Awp.ret ?_; try simp only [go_sem, *])
 | (refine Awp.exit ?_; try simp only [go_sem, *])
 | (apply Awp.cond; (case hc => (simp only [go_sem, *] <;> rfl)); all_goals (intro hg; (try simp only [Bool.not_true, Bool.not_false, reduceCtorEq] at hg)))
 | refine Awp.seq ?_)
      all_goals repeat' (first | exact Lower.int (by first | rfl | (simp only [true_and, Bool.true_and, Bool.false_and, Bool.and_true, Bool.and_false, Bool.true_or, Bool.false_or, reduceIte, Bool.false_eq_true, *]; done) | (simp only [true_and, reduceIte, Bool.false_eq_true, *] <;> rfl) | (simp [true_and]; done) | (simp_all [true_and]; done) | omega))
end Go.Proofs
end
section
set_option linter.unusedVariables false
set_option linter.unusedSimpArgs false
namespace Go.Proofs
open Go Go.Ab
set_option maxHeartbeats 8000000
set_option maxRecDepth 100000
attribute [local irreducible] Awp aops aopsL Go.Ab.Pure PureOwn

theorem rafter_ok (l : List Te) (hl : l.length < 10000) (haf : ∀ i, i < l.length → (l.getD i zeroTe).af.length < 100000) : Pure Tryz.prog 50 [.sl (tes l)] (.v (.int .i64 (firstE (chk2 l) l.length))) := by
  refine fn_pure Tryz.F50 (Nat.le_of_ble_eq_true rfl) ?_; unfold Tryz.ac50
  repeat' (first
 | (apply Awp.sreg; (case hn => (simp only [List.length_cons, List.length_nil, Nat.reduceAdd] <;> rfl)))
 | (refine st_nil ?_)
 | (apply st_a; (case hc => rfl); (case he => (simp only [go_sem, *] <;> rfl)); (case hu => (simp only [updL_nil, updL_cons] <;> rfl)); (case hp => first | trivial))
 | refine Awp.block ?_
 | refine Awp.seq ?_)
  refine Awp.loop (fun i : Nat => i ≤ l.length ∧ ∀ j, j < i → chk2 l j = 0) 60 (fun i => mkS [(0, .sl (tes l)), (3, .v (.int .i64 i))] []) (fun i => l.length - i) 0 (by simp) ?_ ?_
  · clear haf
    (apply Ghost.mk [] []; (case hdead => rfl); (case hinj => rfl); (case hV => (simp only [go_sem, *]) <;> (repeat' (first | exact View.int (by first | rfl | omega | (simp; done) | (rw [wrap_i64] <;> (try simp only [Int.natCast_add]) <;> omega) | (simp [*]; done))))); (case hB => (simp only [go_sem, *]) <;> (repeat' (first | skip; done))))
  · intro i ⟨hi, hj⟩
    by_cases hlt : i < l.length
    · have hlt' : (i : Int) < l.length := by omega
      have hat := tes_at l i hlt
      have hz : ((l.getD i zeroTe).cells).length = 3 := rfl
      have hbad : ∀ {e : Int}, chk2 l i = e → e ≠ 0 → firstE (chk2 l) l.length = e := fun h he => by
        rw [← h, firstE_bad hlt (by rw [h]; exact he) hj]
      have hs : chk2 l i = firstE (chk2k l (l.getD i zeroTe)) (l.getD i zeroTe).af.length := rfl
      have hafi := haf i hlt
      have hnx := fun h => ltSucc (P := fun j => chk2 l j = 0) hj h
      clear haf hj
      obtain ⟨q, hq⟩ : ∃ q, l.getD i zeroTe = q := ⟨_, rfl⟩
      rw [hq] at hat hz hs hafi
      have hln : (strs q.af).length = q.af.length := by simp [strs]
      have hbad' : Hid (∀ {e : Int}, chk2 l i = e → e ≠ 0 → firstE (chk2 l) l.length = e) := hbad
      have hs' : Hid (chk2 l i = firstE (chk2k l q) q.af.length) := hs
      have hnx' : Hid (chk2 l i = 0 → ∀ j, j < i + 1 → chk2 l j = 0) := hnx
      clear hbad hs hnx hq
      repeat' (first
 | (apply Awp.sreg; (case hn => (simp only [List.length_cons, List.length_nil, Nat.reduceAdd] <;> rfl)))
 | (refine st_nil ?_)
 | (apply st_a; (case hc => rfl); (case he => (simp only [go_sem, *] <;> rfl)); (case hu => (simp only [updL_nil, updL_cons] <;> rfl)); (case hp => first | trivial))
 | (refine Awp.skip ?_; try simp only [go_sem, *])
 | refine Awp.block ?_
 | (apply Awp.cond; (case hc => (simp only [go_sem, *] <;> rfl)); all_goals (intro hg; (try simp only [Bool.not_true, Bool.not_false, reduceCtorEq] at hg)))
 | refine Awp.seq ?_)
      refine Awp.loop (fun k : Nat => k ≤ q.af.length ∧ ∀ j, j < k → chk2k l q j = 0) 90 (fun k => mkS [(0, .sl (tes l)), (3, .v (.int .i64 i)), (4, .v (.int .i64 k))] []) (fun k => q.af.length - k) 0 (by simp) ?_ ?_
      · clear hln
        (apply Ghost.mk [] []; (case hdead => rfl); (case hinj => rfl); (case hV => (simp only [go_sem, *]) <;> (repeat' (first | exact View.int (by first | rfl | omega | (simp; done) | (rw [wrap_i64] <;> (try simp only [Int.natCast_add]) <;> omega) | (simp [*]; done))))); (case hB => (simp only [go_sem, *]) <;> (repeat' (first | skip; done))))
      · intro k ⟨hk, hjk⟩
        by_cases hkl : k < q.af.length
        · have hkl' : (k : Int) < q.af.length := by omega
          have hatk := strs_at0 q.af k hkl
          have hbk : ∀ {e : Int}, chk2k l q k = e → e ≠ 0 → firstE (chk2 l) l.length = e := fun h he => by
            have h1 := firstE_bad (f := chk2k l q) hkl (by rw [h]; exact he) hjk
            have hb2 : ∀ {e : Int}, chk2 l i = e → e ≠ 0 → firstE (chk2 l) l.length = e := hbad'
            exact hb2 (by rw [show chk2 l i = firstE (chk2k l q) q.af.length from hs', h1, h]) he
          have hsk : chk2k l q k = if (q.af.getD k zeroB).toList == q.id.toList then 2 else if findE l (q.af.getD k zeroB) < 0 then 8 else 0 := rfl
          have c0 := rfind_ok l (q.af.getD k zeroB) (by omega)
          have hnk := fun h => ltSucc (P := fun j => chk2k l q j = 0) hjk h
          clear hjk
          generalize q.af.getD k zeroB = u at *
          cases h1 : (u.toList == q.id.toList)
          · rw [h1, if_neg (by decide)] at hsk
            by_cases h2 : findE l u < 0
            · rw [if_pos h2] at hsk
              have hf := hbk (e := 8) hsk (by decide)
              rw [hf]
              clear hbk hsk hnk hf
              generalize findE l u = F at *
              repeat' (first
 | (apply Awp.sreg; (case hn => (simp only [List.length_cons, List.length_nil, Nat.reduceAdd] <;> rfl)))
 | (apply Awp.sdraw; (case hn => (simp only [List.length_cons, List.length_nil, Nat.reduceAdd] <;> rfl)))
 | (refine st_nil ?_)
 | (apply st_a; (case hc => rfl); (case he => (simp only [go_sem, *] <;> rfl)); (case hu => (simp only [updL_nil, updL_cons] <;> rfl)); (case hp => first | trivial | omega))
 | (apply st_c; (case hc => (simp only [go_sem, *] <;> rfl)); (case hl => (simp only [go_sem, *] <;> rfl)); (case hn => (simp only [go_sem, *] <;> rfl)); (case hp => first | exact c0 | (have hXz := c0; simp only [go_sem, *] at hXz; exact hXz)))
 | (refine Awp.ret ?_; try simp only [go_sem, *])
 | (refine Awp.skip ?_; try simp only [go_sem, *])
 | refine Awp.block ?_
 | (apply Awp.cond; (case hc => (simp only [go_sem, *] <;> rfl)); all_goals (intro hg; (try simp only [Bool.not_true, Bool.not_false, reduceCtorEq] at hg)))
 | refine Awp.seq ?_
 | (apply sl_a; (case hc => rfl); (case he => (simp only [go_sem, *] <;> rfl)); (case hu => (simp only [updL_nil, updL_cons] <;> rfl)); (case hl => (simp only [List.map_cons, List.map_nil] <;> rfl)); (case hp => first | trivial | omega))
 | (refine sl_nil (And.intro (by first | exact drawOk_of (by decide +kernel) | (simp only [List.map_cons, List.map_nil]; exact drawOk_of (by decide +kernel)) | decide) ?_)))
              all_goals repeat' (first | exact Lower.int (by first | rfl | (simp only [true_and, Bool.true_and, Bool.false_and, Bool.and_true, Bool.and_false, Bool.true_or, Bool.false_or, reduceIte, Bool.false_eq_true, *]; done) | (simp only [true_and, reduceIte, Bool.false_eq_true, *] <;> rfl) | (simp [true_and]; done) | (simp_all [true_and]; done) | omega))
            · rw [if_neg h2] at hsk
              have hnk := hnk hsk
              clear hbk hsk
              generalize findE l u = F at *
              repeat' (first
 | (apply Awp.sreg; (case hn => (simp only [List.length_cons, List.length_nil, Nat.reduceAdd] <;> rfl)))
 | (apply Awp.sdraw; (case hn => (simp only [List.length_cons, List.length_nil, Nat.reduceAdd] <;> rfl)))
 | (refine st_nil ?_)
 | (apply st_a; (case hc => rfl); (case he => (simp only [go_sem, *] <;> rfl)); (case hu => (simp only [updL_nil, updL_cons] <;> rfl)); (case hp => first | trivial | omega))
 | (apply st_c; (case hc => (simp only [go_sem, *] <;> rfl)); (case hl => (simp only [go_sem, *] <;> rfl)); (case hn => (simp only [go_sem, *] <;> rfl)); (case hp => first | exact c0 | (have hXz := c0; simp only [go_sem, *] at hXz; exact hXz)))
 | (apply Awp.reg; (case hn => (simp only [List.length_cons, List.length_nil, Nat.reduceAdd] <;> rfl)))
 | (refine Awp.skip ?_; try simp only [go_sem, *])
 | refine Awp.block ?_
 | (apply Awp.cond; (case hc => (simp only [go_sem, *] <;> rfl)); all_goals (intro hg; (try simp only [Bool.not_true, Bool.not_false, reduceCtorEq] at hg)))
 | refine Awp.seq ?_
 | (apply sl_a; (case hc => rfl); (case he => (simp only [go_sem, *] <;> rfl)); (case hu => (simp only [updL_nil, updL_cons] <;> rfl)); (case hl => (simp only [List.map_cons, List.map_nil] <;> rfl)); (case hp => first | trivial | omega))
 | (refine sl_nil (And.intro (by first | exact drawOk_of (by decide +kernel) | (simp only [List.map_cons, List.map_nil]; exact drawOk_of (by decide +kernel)) | decide) ?_)))
              all_goals (refine ⟨k + 1, ⟨by omega, hnk⟩, by omega, ?_⟩; clear hnk c0; (apply Ghost.mk [] []; (case hdead => rfl); (case hinj => rfl); (case hV => (simp only [go_sem, *]) <;> (repeat' (first | exact View.int (by first | rfl | omega | (simp; done) | (rw [wrap_i64] <;> (try simp only [Int.natCast_add]) <;> omega) | (simp [*]; done))))); (case hB => (simp only [go_sem, *]) <;> (repeat' (first | skip; done)))))
          · rw [h1, if_pos rfl] at hsk
            have hf := hbk (e := 2) hsk (by decide)
            rw [hf]
            clear hbk hsk hnk hf
            repeat' (first
 | (apply Awp.sreg; (case hn => (simp only [List.length_cons, List.length_nil, Nat.reduceAdd] <;> rfl)))
 | (apply Awp.sdraw; (case hn => (simp only [List.length_cons, List.length_nil, Nat.reduceAdd] <;> rfl)))
 | (refine st_nil ?_)
 | (apply st_a; (case hc => rfl); (case he => (simp only [go_sem, *] <;> rfl)); (case hu => (simp only [updL_nil, updL_cons] <;> rfl)); (case hp => first | trivial | omega))
 | (refine Awp.ret ?_; try simp only [go_sem, *])
 | (refine Awp.skip ?_; try simp only [go_sem, *])
 | refine Awp.block ?_
 | (apply Awp.cond; (case hc => (simp only [go_sem, *] <;> rfl)); all_goals (intro hg; (try simp only [Bool.not_true, Bool.not_false, reduceCtorEq] at hg)))
 | refine Awp.seq ?_
 | (apply sl_a; (case hc => rfl); (case he => (simp only [go_sem, *] <;> rfl)); (case hu => (simp only [updL_nil, updL_cons] <;> rfl)); (case hl => (simp only [List.map_cons, List.map_nil] <;> rfl)); (case hp => first | trivial | omega))
 | (refine sl_nil (And.intro (by first | exact drawOk_of (by decide +kernel) | (simp only [List.map_cons, List.map_nil]; exact drawOk_of (by decide +kernel)) | decide) ?_)))
            all_goals repeat' (first | exact Lower.int (by first | rfl | (simp only [true_and, Bool.true_and, Bool.false_and, Bool.and_true, Bool.and_false, Bool.true_or, Bool.false_or, reduceIte, Bool.false_eq_true, *]; done) | (simp only [true_and, reduceIte, Bool.false_eq_true, *] <;> rfl) | (simp [true_and]; done) | (simp_all [true_and]; done) | omega))
        · have hkl' : ¬ (k : Int) < q.af.length := by omega
          have hz0 : chk2 l i = 0 := by rw [show chk2 l i = firstE (chk2k l q) q.af.length from hs', firstE_end (Nat.le_of_not_lt hkl) hjk]
          have hnx : ∀ j, j < i + 1 → chk2 l j = 0 := (show chk2 l i = 0 → ∀ j, j < i + 1 → chk2 l j = 0 from hnx') hz0
          clear hjk hz0 hnx' hs' hbad' hln
          repeat' (first
 | (apply Awp.sreg; (case hn => (simp only [List.length_cons, List.length_nil, Nat.reduceAdd] <;> rfl)))
 | (refine st_nil ?_)
 | (apply st_a; (case hc => rfl); (case he => (simp only [go_sem, *] <;> rfl)); (case hu => (simp only [updL_nil, updL_cons] <;> rfl)); (case hp => first | trivial | omega))
 | (apply Awp.reg; (case hn => (simp only [List.length_cons, List.length_nil, Nat.reduceAdd] <;> rfl)))
 | (refine Awp.exit ?_; try simp only [go_sem, *])
 | (apply Awp.cond; (case hc => (simp only [go_sem, *] <;> rfl)); all_goals (intro hg; (try simp only [Bool.not_true, Bool.not_false, reduceCtorEq] at hg)))
 | refine Awp.seq ?_)
          all_goals (refine ⟨i + 1, ⟨by omega, hnx⟩, by omega, ?_⟩; clear hnx; (apply Ghost.mk [] []; (case hdead => rfl); (case hinj => rfl); (case hV => (simp only [go_sem, *]) <;> (repeat' (first | exact View.int (by first | rfl | omega | (simp; done) | (rw [wrap_i64] <;> (try simp only [Int.natCast_add]) <;> omega) | (simp [*]; done))))); (case hB => (simp only [go_sem, *]) <;> (repeat' (first | skip; done)))))
    · have hlt' : ¬ (i : Int) < l.length := by omega
      have hf := firstE_end (Nat.le_of_not_lt hlt) hj
      rw [hf]
      clear hj hf haf
      repeat' (first
 | (apply Awp.sreg; (case hn => (simp only [List.length_cons, List.length_nil, Nat.reduceAdd] <;> rfl)))
 | (refine st_nil ?_)
 | (apply st_a; (case hc => rfl); (case he => (simp only [go_sem, *] <;> rfl)); (case hu => (simp only [updL_nil, updL_cons] <;> rfl)); (case hp => first | trivial))
 | (refine Awp.ret ?_; try simp only [go_sem, *])
 | (refine Awp.exit ?_; try simp only [go_sem, *])
 | (apply Awp.cond; (case hc => (simp only [go_sem, *] <;> rfl)); all_goals (intro hg; (try simp only [Bool.not_true, Bool.not_false, reduceCtorEq] at hg)))
 | refine Awp.seq ?_)
      all_goals repeat' (first | exact Lower.int (by first | rfl | (simp only [true_and, Bool.true_and, Bool.false_and, Bool.and_true, Bool.and_false, Bool.true_or, Bool.false_or, reduceIte, Bool.false_eq_true, *]; done) | (simp only [true_and, reduceIte, Bool.false_eq_true, *] <;> rfl) | (simp [true_and]; done) | (simp_all [true_and]; done) | omega))
end Go.Proofs
end
section
set_option linter.unusedVariables false
set_option linter.unusedSimpArgs false
namespace Go.Proofs
open Go Go.Ab
set_option maxHeartbeats 8000000
set_option maxRecDepth 100000
attribute [local irreducible] Awp aops aopsL Go.Ab.Pure PureOwn

def stepT (l : List Te) (T : List Bool) (i : Nat) : List Bool := if !T.getD i false && metB l (l.getD i zeroTe) T then T.set i true else T
def roundI (l : List Te) (T : List Bool) (i : Nat) : List Bool := (List.range i).foldl (stepT l) T
def roundsT (l : List Te) : Nat → List Bool → List Bool
  | 0, T => T
  | n + 1, T => roundI l (roundsT l n T) l.length
def openN (T : List Bool) : Nat := T.countP (fun b => !b)
def refT (l : List Te) : Int := if 64 < l.length then 4 else if firstE (chk1 l) l.length ≠ 0 then firstE (chk1 l) l.length else if firstE (chk2 l) l.length ≠ 0 then firstE (chk2 l) l.length else if (roundsT l l.length (List.replicate l.length false)).all id then 0 else 20
theorem roundI_step (l : List Te) (T : List Bool) (i : Nat) : roundI l T (i + 1) = stepT l (roundI l T i) i := by
  unfold roundI; rw [List.range_succ, List.foldl_append]; rfl
theorem stepT_len (l : List Te) (T : List Bool) (i : Nat) : (stepT l T i).length = T.length := by
  unfold stepT; split
  · simp
  · rfl
theorem roundI_len (l : List Te) (T : List Bool) : ∀ i, (roundI l T i).length = T.length
  | 0 => rfl
  | i + 1 => by rw [roundI_step, stepT_len, roundI_len l T i]
theorem roundsT_len (l : List Te) (T : List Bool) : ∀ n, (roundsT l n T).length = T.length
  | 0 => rfl
  | n + 1 => by show (roundI l (roundsT l n T) l.length).length = _; rw [roundI_len, roundsT_len l T n]
theorem roundsT_front (l : List Te) (T : List Bool) : ∀ n, roundsT l (n + 1) T = roundsT l n (roundI l T l.length)
  | 0 => rfl
  | n + 1 => by
    show roundI l (roundsT l (n + 1) T) l.length = roundI l (roundsT l n (roundI l T l.length)) l.length
    rw [roundsT_front l T n]
theorem open_set {T : List Bool} {i : Nat} (hi : i < T.length) (h : T.getD i false = false) : openN (T.set i true) + 1 = openN T := by
  have hg : T[i] = false := by rw [← getD_get T false i hi]; exact h
  have hp : 0 < openN T := List.countP_pos_iff.2 ⟨T[i], List.getElem_mem hi, by rw [hg]; rfl⟩
  unfold openN at *
  rw [List.countP_set hi, hg]
  simp
  omega
theorem stepT_open (l : List Te) (T : List Bool) (i : Nat) : openN (stepT l T i) ≤ openN T ∧ (openN (stepT l T i) = openN T → stepT l T i = T) := by
  unfold stepT
  split
  · rename_i h
    simp only [Bool.and_eq_true, Bool.not_eq_true'] at h
    by_cases hi : i < T.length
    · have := open_set hi h.1
      exact ⟨by omega, fun he => by omega⟩
    · rw [List.set_eq_of_length_le (by omega)]
      exact ⟨Nat.le_refl _, fun _ => rfl⟩
  · exact ⟨Nat.le_refl _, fun _ => rfl⟩
theorem roundI_open (l : List Te) (T : List Bool) : ∀ i, openN (roundI l T i) ≤ openN T ∧ (openN (roundI l T i) = openN T → roundI l T i = T)
  | 0 => ⟨Nat.le_refl _, fun _ => rfl⟩
  | i + 1 => by
    obtain ⟨h1, h2⟩ := roundI_open l T i
    obtain ⟨k1, k2⟩ := stepT_open l (roundI l T i) i
    rw [roundI_step]
    refine ⟨by omega, fun he => ?_⟩
    rw [k2 (by omega), h2 (by omega)]
theorem rounds_fix {l : List Te} {T : List Bool} (h : roundI l T l.length = T) : ∀ n, roundsT l n T = T
  | 0 => rfl
  | n + 1 => by rw [roundsT_front, h, rounds_fix h n]
theorem open_all (T : List Bool) : T.all id = (openN T == 0) := by
  unfold openN
  induction T with
  | nil => rfl
  | cons b T ih =>
    rw [List.all_cons, ih, List.countP_cons]
    cases b <;> simp
structure Sync (l : List Te) (K : List ByteArray) (T : List Bool) : Prop where
  len : T.length = l.length
  mem : ∀ i, i < l.length → hasK K (l.getD i zeroTe).id = !T.getD i false
  cnt : K.length = openN T
  nd : K.Pairwise (fun a b => (a.toList == b.toList) = false)
theorem del_cons (x : ByteArray) (K : List ByteArray) (s : ByteArray) : delKey (x :: K) s = if s.toList == x.toList then K else x :: delKey K s := by
  unfold delKey mapIx
  rw [List.findIdx?_cons]
  cases h : (s.toList == x.toList)
  · rw [if_neg (by decide), if_neg (by decide)]
    cases List.findIdx? (fun y => s.toList == y.toList) K <;> rfl
  · rfl
theorem del_nd (s : ByteArray) : ∀ (K : List ByteArray), K.Pairwise (fun a b => (a.toList == b.toList) = false) → delKey K s = K.filter (fun x => !(s.toList == x.toList))
  | [], _ => rfl
  | x :: K, h => by
    obtain ⟨h1, h2⟩ := List.pairwise_cons.1 h
    rw [del_cons, List.filter_cons]
    cases hx : (s.toList == x.toList)
    · rw [if_neg (by decide), if_pos (by decide), del_nd s K h2]
    · rw [if_pos rfl, if_neg (by decide)]
      refine (List.filter_eq_self.2 fun y hy => ?_).symm
      have := h1 y hy
      rw [beq_iff_eq] at hx
      rw [hx, this]; rfl
theorem has_filter (K : List ByteArray) (s t : ByteArray) : hasK (K.filter (fun x => !(s.toList == x.toList))) t = (hasK K t && !(s.toList == t.toList)) := by
  unfold hasK
  induction K with
  | nil => rfl
  | cons x K ih =>
    rw [List.filter_cons]
    by_cases hx : s.toList = x.toList
    · have e1 : (s.toList == x.toList) = true := by simpa using hx
      rw [e1, if_neg (by decide), ih, List.any_cons]
      by_cases ht : t.toList = x.toList
      · have e2 : (s.toList == t.toList) = true := by rw [beq_iff_eq, hx, ht]
        rw [e2]; simp
      · have e2 : (t.toList == x.toList) = false := by simpa using ht
        rw [e2, Bool.false_or]
    · have e1 : (s.toList == x.toList) = false := by simpa using hx
      rw [e1, if_pos (by decide), List.any_cons, List.any_cons, ih]
      by_cases ht : t.toList = x.toList
      · have e2 : (t.toList == x.toList) = true := by simpa using ht
        have e3 : (s.toList == t.toList) = false := by rw [ht]; exact e1
        rw [e2, e3]; simp
      · have e2 : (t.toList == x.toList) = false := by simpa using ht
        rw [e2, Bool.false_or, Bool.false_or]
theorem del_len1 {K : List ByteArray} {s : ByteArray} (h : hasK K s = true) : (delKey K s).length + 1 = K.length := by
  unfold delKey
  cases hm : mapIx K s with
  | none => rw [mapIx_none.1 hm] at h; cases h
  | some i =>
    have := mapIx_lt hm
    simp only [delK]
    rw [List.length_eraseIdx, if_pos this]
    omega
theorem del_no {K : List ByteArray} {s : ByteArray} (h : hasK K s = false) : delKey K s = K := by
  unfold delKey
  rw [mapIx_none.2 h]; rfl
theorem has_congr {K : List ByteArray} {s t : ByteArray} (h : s.toList = t.toList) : hasK K s = hasK K t := by
  unfold hasK; rw [h]
def DistI (l : List Te) : Prop := ∀ i j, i < l.length → j < l.length → i ≠ j → ((l.getD i zeroTe).id.toList == (l.getD j zeroTe).id.toList) = false
theorem distI_of {l : List Te} (h : firstE (chk1 l) l.length = 0) : DistI l := fun i j hi hj hne => by
  rcases Nat.lt_or_gt_of_ne hne with k | k
  · have := str_ne (ids_lt h i j k hj)
    rw [beq_eq_false_iff_ne] at this ⊢
    exact fun e => this e.symm
  · exact str_ne (ids_lt h j i k hi)
def FindAll (l : List Te) : Prop := ∀ i, i < l.length → ∀ s ∈ (l.getD i zeroTe).af, ¬ findE l s < 0
theorem findAll_of {l : List Te} (h : firstE (chk2 l) l.length = 0) : FindAll l := fun i hi s hs => by
  have h1 := (firstE_zero _ _).1 h i hi
  unfold chk2 at h1
  rw [firstE_zero] at h1
  obtain ⟨k, hk, rfl⟩ := List.getElem_of_mem hs
  have h2 := h1 k hk
  unfold chk2k at h2
  rw [getD_get _ zeroB k hk] at h2
  split at h2
  · cases h2
  · split at h2
    · cases h2
    · assumption
theorem unmet_is {l : List Te} {K : List ByteArray} {T : List Bool} (hS : Sync l K T) {s : ByteArray} (hf : ¬ findE l s < 0) : unmet l T s = hasK K s := by
  obtain ⟨i, hi, he, ht⟩ := find_in hf
  unfold unmet
  rw [he, decide_eq_false (by omega), Bool.false_or, Int.toNat_natCast, ← hS.mem i hi]
  refine has_congr ?_
  unfold isT at ht
  rw [beq_iff_eq] at ht
  exact ht
theorem sync_step {l : List Te} {K : List ByteArray} {T : List Bool} (hS : Sync l K T) (hD : DistI l) (hA : FindAll l) {i : Nat} (hi : i < l.length) : Sync l (rndS K (l.getD i zeroTe)) (stepT l T i) := by
  have hany : (l.getD i zeroTe).af.any (hasK K) = (l.getD i zeroTe).af.any (unmet l T) := by
    rw [Bool.eq_iff_iff, List.any_eq_true, List.any_eq_true]
    constructor
    · intro ⟨s, hs, h⟩; exact ⟨s, hs, by rw [unmet_is hS (hA i hi s hs)]; exact h⟩
    · intro ⟨s, hs, h⟩; exact ⟨s, hs, by rw [← unmet_is hS (hA i hi s hs)]; exact h⟩
  unfold rndS stepT metB
  rw [hany]
  have hm := hS.mem i hi
  cases hT : T.getD i false
  case true =>
    rw [hT] at hm
    simp only [Bool.not_true, Bool.false_and, Bool.false_eq_true, if_false]
    split
    · exact hS
    · rw [del_no hm]; exact hS
  rw [hT] at hm
  cases hu : (l.getD i zeroTe).af.any (unmet l T)
  case true => rw [if_pos rfl, if_neg (by decide)]; exact hS
  rw [if_neg (by decide), if_pos (by decide)]
  have hiT : i < T.length := by rw [hS.len]; exact hi
  refine ⟨by rw [List.length_set]; exact hS.len, fun j hj => ?_, ?_, ?_⟩
  · rw [del_nd _ _ hS.nd, has_filter, hS.mem j hj]
    by_cases hij : i = j
    · subst hij
      have e : ((l.getD i zeroTe).id.toList == (l.getD i zeroTe).id.toList) = true := by simp
      rw [e]
      simp [List.getD_eq_getElem?_getD, hiT]
    · rw [hD i j hi hj hij]
      simp [List.getD_eq_getElem?_getD, List.getElem?_set, hij]
  · have h1 := del_len1 (K := K) (s := (l.getD i zeroTe).id) hm
    have h2 := open_set hiT hT
    have h3 := hS.cnt
    omega
  · rw [del_nd _ _ hS.nd]
    exact hS.nd.sublist List.filter_sublist
theorem sync_round {l : List Te} {K : List ByteArray} {T : List Bool} (hS : Sync l K T) (hD : DistI l) (hA : FindAll l) : ∀ i, i ≤ l.length → Sync l (rnd (l.take i) K) (roundI l T i)
  | 0, _ => by
    have e : rnd (l.take 0) K = K := rfl
    rw [e]; exact hS
  | i + 1, hi => by
    rw [rnd_step l K i (by omega), roundI_step]
    exact sync_step (sync_round hS hD hA i (by omega)) hD hA (by omega)
theorem sync_pass {l : List Te} (hD : DistI l) (hA : FindAll l) : ∀ (m : Nat) (K : List ByteArray) (T : List Bool), Sync l K T → K.length ≤ m → passF l m K = (roundsT l m T).all id := by
  intro m
  induction m with
  | zero =>
    intro K T hS hK
    show (K.length == 0) = _
    have h0 : K.length = 0 := by omega
    have := hS.cnt
    rw [open_all]
    show (K.length == 0) = (openN T == 0)
    rw [this]
  | succ m ih =>
    intro K T hS hK
    have hc := hS.cnt
    have hR := sync_round hS hD hA l.length (Nat.le_refl _)
    rw [List.take_length] at hR
    have hcR := hR.cnt
    obtain ⟨r1, r2⟩ := roundI_open l T l.length
    have hl := rnd_len l K
    show (if K.length = 0 then true else if (rnd l K).length = K.length then false else passF l m (rnd l K)) = _
    by_cases h0 : K.length = 0
    · rw [if_pos h0, rounds_fix (r2 (by omega)), open_all, ← hc, h0]; rfl
    · rw [if_neg h0]
      by_cases he : (rnd l K).length = K.length
      · rw [if_pos he, rounds_fix (r2 (by omega)), open_all, ← hc]
        exact (beq_eq_false_iff_ne.2 h0).symm
      · rw [if_neg he, roundsT_front]
        exact ih _ _ hR (by omega)
theorem sync_init {l : List Te} (hD : DistI l) : Sync l (idsT l) (List.replicate l.length false) := by
  refine ⟨by simp, fun i hi => ?_, ?_, ?_⟩
  · have e : (List.replicate l.length false).getD i false = false := by simp [List.getD_eq_getElem?_getD, hi]
    rw [e]
    unfold hasK idsT
    rw [List.any_eq_true.2 ⟨(l.getD i zeroTe).id, List.mem_map.2 ⟨l.getD i zeroTe, by rw [getD_get _ _ i hi]; exact List.getElem_mem _, rfl⟩, by simp⟩]
    rfl
  · unfold openN idsT
    rw [List.countP_replicate]
    simp
  · unfold idsT
    rw [List.pairwise_map, List.pairwise_iff_getElem]
    intro i j hi hj hij
    have := hD i j hi hj (by omega)
    rw [getD_get _ _ i hi, getD_get _ _ j hj] at this
    exact this
theorem chk_same (l : List Te) : refT l = chkT l := by
  unfold refT chkT
  by_cases h64 : 64 < l.length
  · rw [if_pos h64, if_pos h64]
  rw [if_neg h64, if_neg h64]
  by_cases h1 : firstE (chk1 l) l.length ≠ 0
  · rw [if_pos h1, if_pos h1]
  rw [if_neg h1, if_neg h1]
  by_cases h2 : firstE (chk2 l) l.length ≠ 0
  · rw [if_pos h2, if_pos h2]
  rw [if_neg h2, if_neg h2]
  have hD := distI_of (Decidable.of_not_not h1)
  have hA := findAll_of (Decidable.of_not_not h2)
  have hp := sync_pass hD hA l.length (idsT l) _ (sync_init hD) (by unfold idsT; rw [List.length_map]; exact Nat.le_refl _)
  unfold passE
  rw [hp]
  cases (roundsT l l.length (List.replicate l.length false)).all id <;> rfl
end Go.Proofs
end
section
set_option linter.unusedVariables false
set_option linter.unusedSimpArgs false
namespace Go.Proofs
open Go Go.Ab
set_option maxHeartbeats 8000000
set_option maxRecDepth 100000
attribute [local irreducible] Awp aops aopsL Go.Ab.Pure PureOwn

theorem bls_rep (n : Nat) : bls (List.replicate n false) = List.replicate n [.v (.bool false)] := by simp [bls]
theorem bls_set (T : List Bool) (i : Nat) : (bls T).set i [.v (.bool true)] = bls (T.set i true) := by simp [bls, List.map_set]
theorem round_wp (l : List Te) (hl : l.length < 10000) (haf : ∀ i, i < l.length → (l.getD i zeroTe).af.length < 100000) (T : List Bool) (hT : T.length = l.length) (r : Nat) {Q : AExit → Nat → AState → Prop}
    (hQ : ∀ nx S, Ghost 0 nx S 90 (mkS [(0, .sl (tes l)), (5, .own 0), (6, .v (.int .i64 r))] [(0, .row (bls (roundI l T l.length)) 1 4)]) → Q (.exit 2) nx S) :
    Awp Tryz.prog 65 0 (Tryz.ac24.sub [1, 1, 1, 1, 1, 0, 1, 0, 0, 1, 0, 0, 1, 0]) 90 (mkS [(0, .sl (tes l)), (5, .own 0), (6, .v (.int .i64 r)), (7, .v (.int .i64 0))] [(0, .row (bls T) 1 4)]) Q := by
  refine Awp.loop (fun i : Nat => i ≤ l.length) 90 (fun i => mkS [(0, .sl (tes l)), (5, .own 0), (6, .v (.int .i64 r)), (7, .v (.int .i64 i))] [(0, .row (bls (roundI l T i)) 1 4)]) (fun i => l.length - i) 0 (by omega) (Ghost.refl _ _ _) ?_
  intro i hi
  by_cases hlt : i < l.length
  · have hlt' : (i : Int) < l.length := by omega
    have hat := tes_at l i hlt
    have hz : ((l.getD i zeroTe).cells).length = 3 := rfl
    have hTl : (roundI l T i).length = l.length := by rw [roundI_len, hT]
    have hstep := roundI_step l T i
    have hatT := bls_at (roundI l T i) i (by omega)
    have hiT : i < (roundI l T i).length := by omega
    have hiT' : (i : Int) < (roundI l T i).length := by omega
    have c0 := met_ok l (l.getD i zeroTe) (roundI l T i) hl (haf i hlt) hTl
    have hset := bls_set (roundI l T i) i
    unfold stepT at hstep
    clear haf hQ
    generalize l.getD i zeroTe = q at *
    generalize roundI l T i = U at *
    cases hU : U.getD i false
    · cases hM : metB l q U
      · rw [hU, hM, if_neg (by decide)] at hstep
        rw [hM] at c0
        replace hstep : Hid (roundI l T (i + 1) = U) := hstep
        clear hset
        repeat' (first
 | (apply Awp.sreg; (case hn => (simp only [List.length_cons, List.length_nil, Nat.reduceAdd] <;> rfl)))
 | (refine st_nil ?_)
 | (apply st_a; (case hc => rfl); (case he => (simp only [go_sem, *] <;> rfl)); (case hu => (simp only [updL_nil, updL_cons] <;> rfl)); (case hp => first | trivial | omega))
 | (apply st_m; (case hc => rfl); (case hg => (simp only [go_sem, *] <;> rfl)); (case he => (intro hQz; (try simp only [wantB_t, wantB_f, Bool.and_eq_true, Bool.not_eq_true', Bool.not_true, Bool.not_false, and_true, true_and] at hQz); simp only [go_sem, *] <;> rfl)); (case hp => (intro hQz; (try simp only [wantB_t, wantB_f, Bool.and_eq_true, Bool.not_eq_true', Bool.or_eq_false_iff, decide_eq_true_eq, decide_eq_false_iff_not, beq_iff_eq, beq_eq_false_iff_ne, bne_iff_ne, bne_eq_false_iff_eq, Int.not_lt, Int.not_le, Int.ofNat_lt, Int.ofNat_le] at hQz); first | trivial | omega)))
 | (apply st_cd; (case hc => (simp only [go_sem, *] <;> rfl)); (case hl => (simp only [go_sem, *] <;> rfl)); (case hn => (simp only [go_sem, *] <;> rfl)); (case hp => first | exact c0 | (have hXz := c0; simp only [go_sem, *] at hXz; exact hXz)); (case hd => first | exact .v _ | exact .any | exact .nils | (repeat' (first | exact Dry.v _ | exact Dry.any | exact Dry.nils | exact Dry.slE | refine Dry.agg ?_ | refine Dry.tup ?_ | (refine List.forall_mem_cons.2 (And.intro ?_ ?_)) | (intro cQ hQ; cases hQ; done)))); (case hm => first | decide | (simp; done)))
 | (apply st_g; (case hv => (simp only [go_sem, *] <;> rfl)); all_goals (intro hg; (try simp only [Bool.not_true, Bool.not_false, reduceCtorEq] at hg)))
 | (apply Awp.reg; (case hn => (simp only [List.length_cons, List.length_nil, Nat.reduceAdd] <;> rfl)))
 | (refine Awp.skip ?_; try simp only [go_sem, *])
 | refine Awp.block ?_
 | (apply Awp.cond; (case hc => (simp only [go_sem, *] <;> rfl)); all_goals (intro hg; (try simp only [Bool.not_true, Bool.not_false, reduceCtorEq] at hg)))
 | refine Awp.seq ?_)
        all_goals (refine ⟨i + 1, by omega, by omega, ?_⟩; rw [show roundI l T (i + 1) = U from hstep]; clear hstep c0; (apply Ghost.mk [(0, 0)] []; (case hdead => rfl); (case hinj => rfl); (case hV => (simp only [go_sem, *]) <;> (repeat' (first | refine And.intro ?_ ?_ | exact View.int (by first | rfl | omega | (simp; done) | (rw [wrap_i64] <;> (try simp only [Int.natCast_add]) <;> omega) | (simp [*]; done)) | exact .own rfl (by decide)))); (case hB => (simp only [go_sem, *]) <;> (repeat' (first | exact ⟨_, rfl, .rowE (by first | rfl | omega | (simp; done) | (rw [wrap_i64] <;> (try simp only [Int.natCast_add]) <;> omega) | (simp [*]; done))⟩)))))
      · rw [hU, hM, if_pos (by decide)] at hstep
        rw [hM] at c0
        replace hstep : Hid (roundI l T (i + 1) = U.set i true) := hstep
        repeat' (first
 | (apply Awp.sreg; (case hn => (simp only [List.length_cons, List.length_nil, Nat.reduceAdd] <;> rfl)))
 | (refine st_nil ?_)
 | (apply st_a; (case hc => rfl); (case he => (simp only [go_sem, *] <;> rfl)); (case hu => (simp only [updL_nil, updL_cons] <;> rfl)); (case hp => first | trivial | omega | (simp; done)))
 | (apply st_m; (case hc => rfl); (case hg => (simp only [go_sem, *] <;> rfl)); (case he => (intro hQz; (try simp only [wantB_t, wantB_f, Bool.and_eq_true, Bool.not_eq_true', Bool.not_true, Bool.not_false, and_true, true_and] at hQz); simp only [go_sem, *] <;> rfl)); (case hp => (intro hQz; (try simp only [wantB_t, wantB_f, Bool.and_eq_true, Bool.not_eq_true', Bool.or_eq_false_iff, decide_eq_true_eq, decide_eq_false_iff_not, beq_iff_eq, beq_eq_false_iff_ne, bne_iff_ne, bne_eq_false_iff_eq, Int.not_lt, Int.not_le, Int.ofNat_lt, Int.ofNat_le] at hQz); first | trivial | omega)))
 | (apply st_cd; (case hc => (simp only [go_sem, *] <;> rfl)); (case hl => (simp only [go_sem, *] <;> rfl)); (case hn => (simp only [go_sem, *] <;> rfl)); (case hp => first | exact c0 | (have hXz := c0; simp only [go_sem, *] at hXz; exact hXz)); (case hd => first | exact .v _ | exact .any | exact .nils | (repeat' (first | exact Dry.v _ | exact Dry.any | exact Dry.nils | exact Dry.slE | refine Dry.agg ?_ | refine Dry.tup ?_ | (refine List.forall_mem_cons.2 (And.intro ?_ ?_)) | (intro cQ hQ; cases hQ; done)))); (case hm => first | decide | (simp; done)))
 | (apply st_g; (case hv => (simp only [go_sem, *] <;> rfl)); all_goals (intro hg; (try simp only [Bool.not_true, Bool.not_false, reduceCtorEq] at hg)))
 | (apply Awp.reg; (case hn => (simp only [List.length_cons, List.length_nil, Nat.reduceAdd] <;> rfl)))
 | (refine Awp.skip ?_; try simp only [go_sem, *])
 | refine Awp.block ?_
 | (apply Awp.cond; (case hc => (simp only [go_sem, *] <;> rfl)); all_goals (intro hg; (try simp only [Bool.not_true, Bool.not_false, reduceCtorEq] at hg)))
 | refine Awp.seq ?_)
        all_goals (refine ⟨i + 1, by omega, by omega, ?_⟩; rw [show roundI l T (i + 1) = U.set i true from hstep]; clear hstep c0; (apply Ghost.mk [(0, 0)] []; (case hdead => rfl); (case hinj => rfl); (case hV => (simp only [go_sem, *]) <;> (repeat' (first | refine And.intro ?_ ?_ | exact View.int (by first | rfl | omega | (simp; done) | (rw [wrap_i64] <;> (try simp only [Int.natCast_add]) <;> omega) | (simp [*]; done)) | exact .own rfl (by decide)))); (case hB => (simp only [go_sem, *]) <;> (repeat' (first | exact ⟨_, rfl, .rowE (by first | rfl | omega | (simp; done) | (rw [wrap_i64] <;> (try simp only [Int.natCast_add]) <;> omega) | (simp [*]; done))⟩)))))
    · rw [hU, if_neg (by simp)] at hstep
      replace hstep : Hid (roundI l T (i + 1) = U) := hstep
      clear hset
      repeat' (first
 | (apply Awp.sreg; (case hn => (simp only [List.length_cons, List.length_nil, Nat.reduceAdd] <;> rfl)))
 | (refine st_nil ?_)
 | (apply st_a; (case hc => rfl); (case he => (simp only [go_sem, *] <;> rfl)); (case hu => (simp only [updL_nil, updL_cons] <;> rfl)); (case hp => first | trivial | omega))
 | (apply st_m; (case hc => rfl); (case hg => (simp only [go_sem, *] <;> rfl)); (case he => (intro hQz; (try simp only [wantB_t, wantB_f, Bool.and_eq_true, Bool.not_eq_true', Bool.not_true, Bool.not_false, and_true, true_and] at hQz); simp only [go_sem, *] <;> rfl)); (case hp => (intro hQz; (try simp only [wantB_t, wantB_f, Bool.and_eq_true, Bool.not_eq_true', Bool.or_eq_false_iff, decide_eq_true_eq, decide_eq_false_iff_not, beq_iff_eq, beq_eq_false_iff_ne, bne_iff_ne, bne_eq_false_iff_eq, Int.not_lt, Int.not_le, Int.ofNat_lt, Int.ofNat_le] at hQz); first | trivial)))
 | (apply st_g; (case hv => (simp only [go_sem, *] <;> rfl)); all_goals (intro hg; (try simp only [Bool.not_true, Bool.not_false, reduceCtorEq] at hg)))
 | (apply Awp.reg; (case hn => (simp only [List.length_cons, List.length_nil, Nat.reduceAdd] <;> rfl)))
 | (refine Awp.skip ?_; try simp only [go_sem, *])
 | refine Awp.block ?_
 | (apply Awp.cond; (case hc => (simp only [go_sem, *] <;> rfl)); all_goals (intro hg; (try simp only [Bool.not_true, Bool.not_false, reduceCtorEq] at hg)))
 | refine Awp.seq ?_)
      all_goals (refine ⟨i + 1, by omega, by omega, ?_⟩; rw [show roundI l T (i + 1) = U from hstep]; clear hstep c0; (apply Ghost.mk [(0, 0)] []; (case hdead => rfl); (case hinj => rfl); (case hV => (simp only [go_sem, *]) <;> (repeat' (first | refine And.intro ?_ ?_ | exact View.int (by first | rfl | omega | (simp; done) | (rw [wrap_i64] <;> (try simp only [Int.natCast_add]) <;> omega) | (simp [*]; done)) | exact .own rfl (by decide)))); (case hB => (simp only [go_sem, *]) <;> (repeat' (first | exact ⟨_, rfl, .rowE (by first | rfl | omega | (simp; done) | (rw [wrap_i64] <;> (try simp only [Int.natCast_add]) <;> omega) | (simp [*]; done))⟩)))))
  · have hlt' : ¬ (i : Int) < l.length := by omega
    have hie : Hid (i = l.length) := show i = l.length by omega
    clear haf
    repeat' (first
 | (apply Awp.sreg; (case hn => (simp only [List.length_cons, List.length_nil, Nat.reduceAdd] <;> rfl)))
 | (refine st_nil ?_)
 | (apply st_a; (case hc => rfl); (case he => (simp only [go_sem, *] <;> rfl)); (case hu => (simp only [updL_nil, updL_cons] <;> rfl)); (case hp => first | trivial))
 | (refine Awp.exit ?_; try simp only [go_sem, *])
 | (apply Awp.cond; (case hc => (simp only [go_sem, *] <;> rfl)); all_goals (intro hg; (try simp only [Bool.not_true, Bool.not_false, reduceCtorEq] at hg)))
 | refine Awp.seq ?_)
    all_goals (refine hQ _ _ ?_; rw [← (show i = l.length from hie)]; clear hQ hie; (apply Ghost.mk [(0, 0)] []; (case hdead => rfl); (case hinj => rfl); (case hV => (simp only [go_sem, *]) <;> (repeat' (first | exact .own rfl (by decide)))); (case hB => (simp only [go_sem, *]) <;> (repeat' (first | exact ⟨_, rfl, .rowE (by first | rfl | omega | (simp; done) | (rw [wrap_i64] <;> (try simp only [Int.natCast_add]) <;> omega) | (simp [*]; done))⟩)))))
theorem rcheckT_ok (l : List Te) (hl : l.length < 10000) (hid : ∀ i, i < l.length → (l.getD i zeroTe).id.size < 1000000 ∧ (l.getD i zeroTe).af.length < 100000) : Pure Tryz.prog 24 [.sl (tes l)] (.v (.int .i64 (chkT l))) := by
  rw [← chk_same]
  unfold refT
  by_cases h64 : 64 < l.length
  · rw [if_pos h64]
    have h64' : (64 : Int) < l.length := by omega
    clear hid
    refine fn_pure Tryz.F24 (Nat.le_of_ble_eq_true rfl) ?_; unfold Tryz.ac24
    repeat' (first
 | (apply Awp.sreg; (case hn => (simp only [List.length_cons, List.length_nil, Nat.reduceAdd] <;> rfl)))
 | (refine st_nil ?_)
 | (apply st_a; (case hc => rfl); (case he => (simp only [go_sem, *] <;> rfl)); (case hu => (simp only [updL_nil, updL_cons] <;> rfl)); (case hp => first | trivial))
 | (refine Awp.ret ?_; try simp only [go_sem, *])
 | (apply Awp.cond; (case hc => (simp only [go_sem, *] <;> rfl)); all_goals (intro hg; (try simp only [Bool.not_true, Bool.not_false, reduceCtorEq] at hg)))
 | refine Awp.seq ?_)
    all_goals repeat' (first | exact Lower.int (by first | rfl | (simp only [true_and, Bool.true_and, Bool.false_and, Bool.and_true, Bool.and_false, Bool.true_or, Bool.false_or, reduceIte, Bool.false_eq_true, *]; done) | (simp only [true_and, reduceIte, Bool.false_eq_true, *] <;> rfl) | (simp [true_and]; done) | (simp_all [true_and]; done) | omega))
  rw [if_neg h64]
  have h64' : ¬ (64 : Int) < l.length := by omega
  have haf : ∀ i, i < l.length → (l.getD i zeroTe).af.length < 100000 := fun i hi => (hid i hi).2
  have c1 := rnames_ok l hl hid
  have c2 := rafter_ok l hl haf
  clear hid
  by_cases h1 : firstE (chk1 l) l.length ≠ 0
  · rw [if_pos h1]
    have h1' : (firstE (chk1 l) l.length != 0) = true := by simpa using h1
    clear haf h1 c2
    generalize firstE (chk1 l) l.length = E at *
    refine fn_pure Tryz.F24 (Nat.le_of_ble_eq_true rfl) ?_; unfold Tryz.ac24
    repeat' (first
 | (apply Awp.sreg; (case hn => (simp only [List.length_cons, List.length_nil, Nat.reduceAdd] <;> rfl)))
 | (refine st_nil ?_)
 | (apply st_a; (case hc => rfl); (case he => (simp only [go_sem, *] <;> rfl)); (case hu => (simp only [updL_nil, updL_cons] <;> rfl)); (case hp => first | trivial))
 | (apply st_c; (case hc => (simp only [go_sem, *] <;> rfl)); (case hl => (simp only [go_sem, *] <;> rfl)); (case hn => (simp only [go_sem, *] <;> rfl)); (case hp => first | exact c1 | (have hXz := c1; simp only [go_sem, *] at hXz; exact hXz)))
 | (refine Awp.ret ?_; try simp only [go_sem, *])
 | (refine Awp.skip ?_; try simp only [go_sem, *])
 | (apply Awp.cond; (case hc => (simp only [go_sem, *] <;> rfl)); all_goals (intro hg; (try simp only [Bool.not_true, Bool.not_false, reduceCtorEq] at hg)))
 | refine Awp.seq ?_)
    all_goals repeat' (first | exact Lower.int (by first | rfl | (simp only [true_and, Bool.true_and, Bool.false_and, Bool.and_true, Bool.and_false, Bool.true_or, Bool.false_or, reduceIte, Bool.false_eq_true, *]; done) | (simp only [true_and, reduceIte, Bool.false_eq_true, *] <;> rfl) | (simp [true_and]; done) | (simp_all [true_and]; done) | omega))
  rw [if_neg h1]
  rw [Decidable.of_not_not h1] at c1
  clear h1
  by_cases h2 : firstE (chk2 l) l.length ≠ 0
  · rw [if_pos h2]
    have h2' : (firstE (chk2 l) l.length != 0) = true := by simpa using h2
    clear haf h2
    generalize firstE (chk2 l) l.length = E at *
    refine fn_pure Tryz.F24 (Nat.le_of_ble_eq_true rfl) ?_; unfold Tryz.ac24
    repeat' (first
 | (apply Awp.sreg; (case hn => (simp only [List.length_cons, List.length_nil, Nat.reduceAdd] <;> rfl)))
 | (refine st_nil ?_)
 | (apply st_a; (case hc => rfl); (case he => (simp only [go_sem, *] <;> rfl)); (case hu => (simp only [updL_nil, updL_cons] <;> rfl)); (case hp => first | trivial))
 | (apply st_c; (case hc => (simp only [go_sem, *] <;> rfl)); (case hl => (simp only [go_sem, *] <;> rfl)); (case hn => (simp only [go_sem, *] <;> rfl)); (case hp => first | exact c1 | (have hXz := c1; simp only [go_sem, *] at hXz; exact hXz)))
 | (apply st_c; (case hc => (simp only [go_sem, *] <;> rfl)); (case hl => (simp only [go_sem, *] <;> rfl)); (case hn => (simp only [go_sem, *] <;> rfl)); (case hp => first | exact c2 | (have hXz := c2; simp only [go_sem, *] at hXz; exact hXz)))
 | (refine Awp.ret ?_; try simp only [go_sem, *])
 | (refine Awp.skip ?_; try simp only [go_sem, *])
 | (apply Awp.cond; (case hc => (simp only [go_sem, *] <;> rfl)); all_goals (intro hg; (try simp only [Bool.not_true, Bool.not_false, reduceCtorEq] at hg)))
 | refine Awp.seq ?_)
    all_goals repeat' (first | exact Lower.int (by first | rfl | (simp only [true_and, Bool.true_and, Bool.false_and, Bool.and_true, Bool.and_false, Bool.true_or, Bool.false_or, reduceIte, Bool.false_eq_true, *]; done) | (simp only [true_and, reduceIte, Bool.false_eq_true, *] <;> rfl) | (simp [true_and]; done) | (simp_all [true_and]; done) | omega))
  rw [if_neg h2]
  rw [Decidable.of_not_not h2] at c2
  clear h2
  have hrep := bls_rep l.length
  obtain ⟨R, hR⟩ : ∃ R, roundsT l l.length (List.replicate l.length false) = R := ⟨_, rfl⟩
  have hRl : R.length = l.length := by rw [← hR, roundsT_len]; simp
  rw [hR]
  have hR' : Hid (roundsT l l.length (List.replicate l.length false) = R) := hR
  clear hR
  refine fn_pure Tryz.F24 (Nat.le_of_ble_eq_true rfl) ?_; unfold Tryz.ac24
  repeat' (first
 | (apply Awp.sreg; (case hn => (simp only [List.length_cons, List.length_nil, Nat.reduceAdd] <;> rfl)))
 | (refine st_nil ?_)
 | (apply st_a; (case hc => rfl); (case he => (simp only [go_sem, *] <;> rfl)); (case hu => (simp only [updL_nil, updL_cons] <;> rfl)); (case hp => first | trivial | omega))
 | (apply st_c; (case hc => (simp only [go_sem, *] <;> rfl)); (case hl => (simp only [go_sem, *] <;> rfl)); (case hn => (simp only [go_sem, *] <;> rfl)); (case hp => first | exact c1 | (have hXz := c1; simp only [go_sem, *] at hXz; exact hXz)))
 | (apply st_c; (case hc => (simp only [go_sem, *] <;> rfl)); (case hl => (simp only [go_sem, *] <;> rfl)); (case hn => (simp only [go_sem, *] <;> rfl)); (case hp => first | exact c2 | (have hXz := c2; simp only [go_sem, *] at hXz; exact hXz)))
 | (refine Awp.skip ?_; try simp only [go_sem, *])
 | refine Awp.block ?_
 | (apply Awp.cond; (case hc => (simp only [go_sem, *] <;> rfl)); all_goals (intro hg; (try simp only [Bool.not_true, Bool.not_false, reduceCtorEq] at hg)))
 | refine Awp.seq ?_)
  clear c1 c2
  refine Awp.loop (fun r : Nat => r ≤ l.length) 80 (fun r => mkS [(0, .sl (tes l)), (5, .own 0), (6, .v (.int .i64 r))] [(0, .row (bls (roundsT l r (List.replicate l.length false))) 1 4)]) (fun r => l.length - r) 0 (by omega) ?_ ?_
  · clear haf hRl hR'
    have e0 : roundsT l 0 (List.replicate l.length false) = List.replicate l.length false := rfl
    (apply Ghost.mk [(0, 16)] []; (case hdead => rfl); (case hinj => rfl); (case hV => (simp only [go_sem, *]) <;> (repeat' (first | refine And.intro ?_ ?_ | exact View.int (by first | rfl | omega | (simp; done) | (rw [wrap_i64] <;> (try simp only [Int.natCast_add]) <;> omega) | (simp [*]; done)) | exact .own rfl (by decide)))); (case hB => (simp only [go_sem, *]) <;> (repeat' (first | exact ⟨_, rfl, .rowE (by first | rfl | omega | (simp; done) | (rw [wrap_i64] <;> (try simp only [Int.natCast_add]) <;> omega) | (simp [*]; done))⟩))))
  · intro r hr
    by_cases hlt : r < l.length
    · have hlt' : (r : Int) < l.length := by omega
      have hTl : (roundsT l r (List.replicate l.length false)).length = l.length := by rw [roundsT_len]; simp
      have hnx : Hid (roundsT l (r + 1) (List.replicate l.length false) = roundI l (roundsT l r (List.replicate l.length false)) l.length) := show _ = _ from rfl
      clear hrep hRl hR'
      generalize roundsT l r (List.replicate l.length false) = T at *
      repeat' (first
 | (apply Awp.sreg; (case hn => (simp only [List.length_cons, List.length_nil, Nat.reduceAdd] <;> rfl)))
 | (refine st_nil ?_)
 | (apply st_a; (case hc => rfl); (case he => (simp only [go_sem, *] <;> rfl)); (case hu => (simp only [updL_nil, updL_cons] <;> rfl)); (case hp => first | trivial))
 | (refine Awp.skip ?_; try simp only [go_sem, *])
 | refine Awp.block ?_
 | (apply Awp.cond; (case hc => (simp only [go_sem, *] <;> rfl)); all_goals (intro hg; (try simp only [Bool.not_true, Bool.not_false, reduceCtorEq] at hg)))
 | refine Awp.seq ?_)
      all_goals (refine Awp.ghost (nx' := 90) (S' := mkS [(0, .sl (tes l)), (5, .own 0), (6, .v (.int .i64 r)), (7, .v (.int .i64 0))] [(0, .row (bls T) 1 4)]) ?_ (round_wp l hl haf T hTl r (fun nx S gg => ?_)))
      · clear haf hnx
        (apply Ghost.mk [(0, 0)] []; (case hdead => rfl); (case hinj => rfl); (case hV => (simp only [go_sem, *]) <;> (repeat' (first | exact .own rfl (by decide)))); (case hB => (simp only [go_sem, *]) <;> (repeat' (first | exact ⟨_, rfl, .rowE (by first | rfl | omega | (simp; done) | (rw [wrap_i64] <;> (try simp only [Int.natCast_add]) <;> omega) | (simp [*]; done))⟩))))
      · simp only [go_sem]
        refine Awp.ghost gg ?_
        clear gg haf
        repeat' (first
 | (refine st_nil ?_)
 | (apply st_a; (case hc => rfl); (case he => (simp only [go_sem, *] <;> rfl)); (case hu => (simp only [updL_nil, updL_cons] <;> rfl)); (case hp => first | trivial))
 | (apply Awp.reg; (case hn => (simp only [List.length_cons, List.length_nil, Nat.reduceAdd] <;> rfl))))
        all_goals (refine ⟨r + 1, by omega, by omega, ?_⟩; rw [show roundsT l (r + 1) (List.replicate l.length false) = roundI l T l.length from hnx]; clear hnx; (apply Ghost.mk [(0, 0)] []; (case hdead => rfl); (case hinj => rfl); (case hV => (simp only [go_sem, *]) <;> (repeat' (first | refine And.intro ?_ ?_ | exact View.int (by first | rfl | omega | (simp; done) | (rw [wrap_i64] <;> (try simp only [Int.natCast_add]) <;> omega) | (simp [*]; done)) | exact .own rfl (by decide)))); (case hB => (simp only [go_sem, *]) <;> (repeat' (first | exact ⟨_, rfl, .rowE (by first | rfl | omega | (simp; done) | (rw [wrap_i64] <;> (try simp only [Int.natCast_add]) <;> omega) | (simp [*]; done))⟩)))))
    · have hlt' : ¬ (r : Int) < l.length := by omega
      have hre : r = l.length := by omega
      rw [hre] at hlt' ⊢
      rw [show roundsT l l.length (List.replicate l.length false) = R from hR']
      clear haf hre hR' hlt hr hrep r
      repeat' (first
 | (apply Awp.sreg; (case hn => (simp only [List.length_cons, List.length_nil, Nat.reduceAdd] <;> rfl)))
 | (refine st_nil ?_)
 | (apply st_a; (case hc => rfl); (case he => (simp only [go_sem, *] <;> rfl)); (case hu => (simp only [updL_nil, updL_cons] <;> rfl)); (case hp => first | trivial))
 | (refine Awp.exit ?_; try simp only [go_sem, *])
 | refine Awp.block ?_
 | (apply Awp.cond; (case hc => (simp only [go_sem, *] <;> rfl)); all_goals (intro hg; (try simp only [Bool.not_true, Bool.not_false, reduceCtorEq] at hg)))
 | refine Awp.seq ?_)
      refine Awp.loop (fun i : Nat => i ≤ l.length ∧ ∀ j, j < i → (fun b => !b) (R.getD j false) = false) 100 (fun i => mkS [(0, .sl (tes l)), (5, .own 0), (8, .v (.int .i64 i))] [(0, .row (bls R) 1 4)]) (fun i => l.length - i) 0 (by simp) ?_ ?_
      · (apply Ghost.mk [(0, 0)] []; (case hdead => rfl); (case hinj => rfl); (case hV => (simp only [go_sem, *]) <;> (repeat' (first | refine And.intro ?_ ?_ | exact View.int (by first | rfl | omega | (simp; done) | (rw [wrap_i64] <;> (try simp only [Int.natCast_add]) <;> omega) | (simp [*]; done)) | exact .own rfl (by decide)))); (case hB => (simp only [go_sem, *]) <;> (repeat' (first | exact ⟨_, rfl, .rowE (by first | rfl | omega | (simp; done) | (rw [wrap_i64] <;> (try simp only [Int.natCast_add]) <;> omega) | (simp [*]; done))⟩))))
      · intro i ⟨hi, hj⟩
        by_cases hlt : i < l.length
        · have hlt2 : (i : Int) < l.length := by omega
          have hatT := bls_at R i (by omega)
          have hiT : i < R.length := by omega
          have hiT' : (i : Int) < R.length := by omega
          have hnx0 := fun h => ltSucc (P := fun j => (fun b => !b) (R.getD j false) = false) hj h
          have hno := fun h => any_in (p := fun b => !b) (d := false) hiT h
          clear hj
          cases hB : R.getD i false
          · have hno := hno (by rw [hB]; rfl)
            have hall : R.all id = false := by
              rw [Bool.eq_false_iff]
              intro h
              rw [List.all_eq_true] at h
              rw [List.any_eq_true] at hno
              obtain ⟨b, hb, hb2⟩ := hno
              have := h b hb
              cases b
              · cases this
              · cases hb2
            rw [hall]
            clear hnx0 hno hall
            repeat' (first
 | (apply Awp.sreg; (case hn => (simp only [List.length_cons, List.length_nil, Nat.reduceAdd] <;> rfl)))
 | (refine st_nil ?_)
 | (apply st_a; (case hc => rfl); (case he => (simp only [go_sem, *] <;> rfl)); (case hu => (simp only [updL_nil, updL_cons] <;> rfl)); (case hp => first | trivial | omega))
 | (refine Awp.ret ?_; try simp only [go_sem, *])
 | (refine Awp.skip ?_; try simp only [go_sem, *])
 | refine Awp.block ?_
 | (apply Awp.cond; (case hc => (simp only [go_sem, *] <;> rfl)); all_goals (intro hg; (try simp only [Bool.not_true, Bool.not_false, reduceCtorEq] at hg)))
 | refine Awp.seq ?_)
            all_goals repeat' (first | exact Lower.int (by first | rfl | (simp only [true_and, Bool.true_and, Bool.false_and, Bool.and_true, Bool.and_false, Bool.true_or, Bool.false_or, reduceIte, Bool.false_eq_true, *]; done) | (simp only [true_and, reduceIte, Bool.false_eq_true, *] <;> rfl) | (simp [true_and]; done) | (simp_all [true_and]; done) | omega))
          · have hnx := hnx0 (by show (!R.getD i false) = false; rw [hB]; rfl)
            clear hnx0 hno
            repeat' (first
 | (apply Awp.sreg; (case hn => (simp only [List.length_cons, List.length_nil, Nat.reduceAdd] <;> rfl)))
 | (refine st_nil ?_)
 | (apply st_a; (case hc => rfl); (case he => (simp only [go_sem, *] <;> rfl)); (case hu => (simp only [updL_nil, updL_cons] <;> rfl)); (case hp => first | trivial | omega))
 | (apply Awp.reg; (case hn => (simp only [List.length_cons, List.length_nil, Nat.reduceAdd] <;> rfl)))
 | (refine Awp.skip ?_; try simp only [go_sem, *])
 | refine Awp.block ?_
 | (apply Awp.cond; (case hc => (simp only [go_sem, *] <;> rfl)); all_goals (intro hg; (try simp only [Bool.not_true, Bool.not_false, reduceCtorEq] at hg)))
 | refine Awp.seq ?_)
            all_goals (refine ⟨i + 1, ⟨by omega, hnx⟩, by omega, ?_⟩; clear hnx; (apply Ghost.mk [(0, 0)] []; (case hdead => rfl); (case hinj => rfl); (case hV => (simp only [go_sem, *]) <;> (repeat' (first | refine And.intro ?_ ?_ | exact View.int (by first | rfl | omega | (simp; done) | (rw [wrap_i64] <;> (try simp only [Int.natCast_add]) <;> omega) | (simp [*]; done)) | exact .own rfl (by decide)))); (case hB => (simp only [go_sem, *]) <;> (repeat' (first | exact ⟨_, rfl, .rowE (by first | rfl | omega | (simp; done) | (rw [wrap_i64] <;> (try simp only [Int.natCast_add]) <;> omega) | (simp [*]; done))⟩)))))
        · have hlt2 : ¬ (i : Int) < l.length := by omega
          have hf := any_end (p := fun b => !b) (d := false) (l := R) (by omega) hj
          have hall : R.all id = true := by
            rw [List.all_eq_true]
            rw [List.any_eq_false] at hf
            intro b hb
            have := hf b hb
            cases b
            · exact absurd rfl this
            · rfl
          rw [hall]
          clear hj hf hall
          repeat' (first
 | (apply Awp.sreg; (case hn => (simp only [List.length_cons, List.length_nil, Nat.reduceAdd] <;> rfl)))
 | (refine st_nil ?_)
 | (apply st_a; (case hc => rfl); (case he => (simp only [go_sem, *] <;> rfl)); (case hu => (simp only [updL_nil, updL_cons] <;> rfl)); (case hp => first | trivial))
 | (refine Awp.ret ?_; try simp only [go_sem, *])
 | (refine Awp.exit ?_; try simp only [go_sem, *])
 | (apply Awp.cond; (case hc => (simp only [go_sem, *] <;> rfl)); all_goals (intro hg; (try simp only [Bool.not_true, Bool.not_false, reduceCtorEq] at hg)))
 | refine Awp.seq ?_)
          all_goals repeat' (first | exact Lower.int (by first | rfl | (simp only [true_and, Bool.true_and, Bool.false_and, Bool.and_true, Bool.and_false, Bool.true_or, Bool.false_or, reduceIte, Bool.false_eq_true, *]; done) | (simp only [true_and, reduceIte, Bool.false_eq_true, *] <;> rfl) | (simp [true_and]; done) | (simp_all [true_and]; done) | omega))
end Go.Proofs
end
section
set_option linter.unusedVariables false
set_option linter.unusedSimpArgs false
namespace Go.Proofs
open Go Go.Ab
set_option maxHeartbeats 8000000
set_option maxRecDepth 100000
attribute [local irreducible] Awp aops aopsL Go.Ab.Pure PureOwn

structure PassYes (l : List Te) (s : ByteArray) (i : Nat) : Prop where
  lt : i < l.length
  at' : findE l s = i
  has : isT s (l.getD i zeroTe) = true
  opn : (l.getD i zeroTe).dn = false
  met : (l.getD i zeroTe).af.any (fun b => !doneB l b) = false
  val : passT l s = (l.set i ⟨(l.getD i zeroTe).id, (l.getD i zeroTe).af, true⟩, 0)
theorem pass_cases (l : List Te) (s : ByteArray) : ((passT l s).1 = [] ∧ ((passT l s).2 = 8 ∨ (passT l s).2 = 14 ∨ (passT l s).2 = 11)) ∨ ∃ i, PassYes l s i := by
  unfold passT
  by_cases hF : findE l s < 0
  · rw [if_pos hF]; exact .inl ⟨rfl, .inl rfl⟩
  rw [if_neg hF]
  obtain ⟨i, hi, hFi, hT⟩ := find_in hF
  rw [hFi, Int.toNat_natCast]
  unfold passAt
  cases h1 : (l.getD i zeroTe).dn
  case true => rw [if_pos rfl]; exact .inl ⟨rfl, .inr (.inl rfl)⟩
  rw [if_neg (by decide)]
  cases h2 : (l.getD i zeroTe).af.any (fun b => !doneB l b)
  case true => rw [if_pos rfl]; exact .inl ⟨rfl, .inr (.inr rfl)⟩
  rw [if_neg (by decide)]
  refine .inr ⟨i, hi, hFi, hT, h1, h2, ?_⟩
  unfold passT passAt
  rw [if_neg hF, hFi, Int.toNat_natCast, h1, if_neg (by decide), h2, if_neg (by decide)]
theorem set_at (l : List Te) (i j : Nat) (x : Te) (hi : i < l.length) : (l.set i x).getD j zeroTe = if i = j then x else l.getD j zeroTe := by
  by_cases h : i = j
  · subst h; simp [List.getD_eq_getElem?_getD, hi]
  · simp [List.getD_eq_getElem?_getD, List.getElem?_set, h]
theorem pass_small (l : List Te) (s : ByteArray) : (passT l s).1.length ≤ l.length ∧ ∀ j, j < (passT l s).1.length → ((passT l s).1.getD j zeroTe).af = (l.getD j zeroTe).af := by
  rcases pass_cases l s with ⟨h, _⟩ | ⟨i, h⟩
  · rw [h]; exact ⟨Nat.zero_le _, fun j hj => by cases hj⟩
  · rw [h.val]
    dsimp only
    refine ⟨by simp, fun j _ => ?_⟩
    rw [set_at l i j _ h.lt]
    by_cases hij : i = j
    · subst hij; rw [if_pos rfl]
    · rw [if_neg hij]
theorem clean_len (l : List Te) : (cleanE l).length = l.length := by simp [cleanE]
theorem clean_at (l : List Te) (i : Nat) : (cleanE l).getD i zeroTe = ⟨(l.getD i zeroTe).id, (l.getD i zeroTe).af, false⟩ := by
  unfold cleanE
  by_cases h : i < l.length
  · simp [List.getD_eq_getElem?_getD, h]
  · simp [List.getD_eq_getElem?_getD, h]; rfl
theorem clean_set {l : List Te} {i : Nat} {b : Bool} (hi : i < l.length) : cleanE (l.set i ⟨(l.getD i zeroTe).id, (l.getD i zeroTe).af, b⟩) = cleanE l := by
  unfold cleanE
  rw [List.map_set]
  refine List.ext_getElem (by simp) fun j h1 h2 => ?_
  rw [List.getElem_set]
  split
  · rename_i h
    subst h
    rw [getD_get l zeroTe i hi]
    simp
  · rfl
theorem clean_ids {l m : List Te} (h : cleanE l = cleanE m) (i : Nat) : (l.getD i zeroTe).id = (m.getD i zeroTe).id ∧ (l.getD i zeroTe).af = (m.getD i zeroTe).af := by
  have h1 := clean_at l i
  have h2 := clean_at m i
  rw [h] at h1
  rw [h1] at h2
  injection h2 with a b _
  exact ⟨a, b⟩
theorem find_clean (l : List Te) (s : ByteArray) : findE (cleanE l) s = findE l s := by
  unfold findE idxF cleanE
  rw [List.findIdx_map, List.length_map]
  rfl
theorem chk1_clean (l : List Te) (i : Nat) : chk1 (cleanE l) i = chk1 l i := by
  have hp : prevT (cleanE l) i = prevT l i := by unfold prevT; simp only [clean_at]
  unfold chk1
  simp only [clean_at, hp]
theorem chk2_clean (l : List Te) (i : Nat) : chk2 (cleanE l) i = chk2 l i := by
  unfold chk2
  rw [clean_at]
  congr 1
  funext k
  unfold chk2k
  rw [find_clean]
theorem met_clean (l : List Te) (q : Te) (T : List Bool) : metB (cleanE l) ⟨q.id, q.af, false⟩ T = metB l q T := by
  unfold metB
  congr 2
  funext s
  unfold unmet
  rw [find_clean]
theorem step_clean (l : List Te) (T : List Bool) (i : Nat) : stepT (cleanE l) T i = stepT l T i := by
  unfold stepT
  rw [clean_at, met_clean]
theorem rounds_clean (l : List Te) (T : List Bool) : ∀ n, roundsT (cleanE l) n T = roundsT l n T
  | 0 => rfl
  | n + 1 => by
    show roundI (cleanE l) (roundsT (cleanE l) n T) (cleanE l).length = roundI l (roundsT l n T) l.length
    rw [rounds_clean l T n, clean_len]
    unfold roundI
    congr 1
    funext T i
    exact step_clean l T i
theorem chkT_clean (l : List Te) : chkT (cleanE l) = chkT l := by
  rw [← chk_same, ← chk_same]
  unfold refT
  rw [clean_len, rounds_clean, funext (chk1_clean l), funext (chk2_clean l)]
/-- What a right list is. -/
structure RightT (l : List Te) : Prop where
  dist : DistI l
  find : FindAll l
  pass : (roundsT l l.length (List.replicate l.length false)).all id = true
theorem right_of {l : List Te} (h : chkT l = 0) : RightT l := by
  rw [← chk_same] at h
  unfold refT at h
  by_cases h64 : 64 < l.length
  · rw [if_pos h64] at h; cases h
  rw [if_neg h64] at h
  by_cases h1 : firstE (chk1 l) l.length ≠ 0
  · rw [if_pos h1] at h; exact absurd h h1
  rw [if_neg h1] at h
  by_cases h2 : firstE (chk2 l) l.length ≠ 0
  · rw [if_pos h2] at h; exact absurd h h2
  rw [if_neg h2] at h
  refine ⟨distI_of (Decidable.of_not_not h1), findAll_of (Decidable.of_not_not h2), ?_⟩
  cases h3 : (roundsT l l.length (List.replicate l.length false)).all id
  · rw [h3] at h; cases h
  · rfl
theorem find_self {l : List Te} (hD : DistI l) {i : Nat} (hi : i < l.length) : findE l (l.getD i zeroTe).id = i := by
  unfold findE
  rcases idxF_some (p := isT (l.getD i zeroTe).id) (l := l) zeroTe with ⟨_, hn⟩ | ⟨j, hj, hI, h2, _⟩
  · exfalso
    have := hn i hi
    unfold isT at this
    simp at this
  · by_cases hij : j = i
    · rw [hI, hij]
    · exfalso
      unfold isT at h2
      rw [hD j i hj hi hij] at h2
      cases h2
/-- The marks that are reached lie below any marks that no test can be added to. -/
theorem step_below {l : List Te} {T D : List Bool} (hD : ∀ i, i < l.length → D.getD i false = false → metB l (l.getD i zeroTe) D = false) (hT : ∀ i, T.getD i false = true → D.getD i false = true) {i : Nat} (hi : i < l.length) : ∀ j, (stepT l T i).getD j false = true → D.getD j false = true := by
  intro j hj
  unfold stepT at hj
  split at hj
  · rename_i h
    simp only [Bool.and_eq_true, Bool.not_eq_true'] at h
    by_cases hij : i = j
    · subst hij
      cases hd : D.getD i false
      · have hm := hD i hi hd
        rw [← hm, ← h.2]
        unfold metB at *
        have h2 := h.2
        rw [Bool.not_eq_true', List.any_eq_false] at h2
        have e1 : (l.getD i zeroTe).af.any (unmet l T) = false := by rw [List.any_eq_false]; exact h2
        rw [e1]
        have e2 : (l.getD i zeroTe).af.any (unmet l D) = false := by
          rw [List.any_eq_false]
          intro s hs hu
          apply h2 s hs
          unfold unmet at *
          rw [Bool.or_eq_true] at *
          rcases hu with hu | hu
          · exact .inl hu
          · refine .inr ?_
            rw [Bool.not_eq_true'] at *
            cases hx : T.getD (findE l s).toNat false
            · rfl
            · rw [hT _ hx] at hu; cases hu
        rw [e2]
      · rfl
    · refine hT j ?_
      rw [← hj]
      simp [List.getD_eq_getElem?_getD, List.getElem?_set, hij]
  · exact hT j hj
theorem round_below {l : List Te} {T D : List Bool} (hD : ∀ i, i < l.length → D.getD i false = false → metB l (l.getD i zeroTe) D = false) (hT : ∀ i, T.getD i false = true → D.getD i false = true) : ∀ i, i ≤ l.length → ∀ j, (roundI l T i).getD j false = true → D.getD j false = true
  | 0, _ => hT
  | i + 1, hi => by
    rw [roundI_step]
    exact step_below hD (round_below hD hT i (by omega)) (by omega)
theorem rounds_below {l : List Te} {T D : List Bool} (hD : ∀ i, i < l.length → D.getD i false = false → metB l (l.getD i zeroTe) D = false) (hT : ∀ i, T.getD i false = true → D.getD i false = true) : ∀ n, ∀ j, (roundsT l n T).getD j false = true → D.getD j false = true
  | 0 => hT
  | n + 1 => round_below hD (rounds_below hD hT n) l.length (Nat.le_refl _)
def dns (l : List Te) : List Bool := l.map (·.dn)
theorem dns_len (l : List Te) : (dns l).length = l.length := by simp [dns]
theorem dns_at (l : List Te) (i : Nat) : (dns l).getD i false = (l.getD i zeroTe).dn := by
  by_cases h : i < l.length
  · simp [dns, List.getD_eq_getElem?_getD, h]
  · simp [dns, List.getD_eq_getElem?_getD, h]; rfl
theorem met_done (l : List Te) (q : Te) : metB l q (dns l) = !q.af.any (fun b => !doneB l b) := by
  unfold metB
  congr 2
  funext s
  unfold unmet doneB
  by_cases hF : findE l s < 0
  · rw [decide_eq_true hF, decide_eq_false (show ¬ (0 ≤ findE l s) by omega)]; rfl
  · rw [decide_eq_false hF, decide_eq_true (show 0 ≤ findE l s by omega), Bool.false_or, Bool.true_and, dns_at]
theorem can_pass {l : List Te} (hR : RightT l) (ho : leftE l ≠ []) : ∃ s ∈ leftE l, (passT l s).2 = 0 := by
  refine Classical.byContradiction fun hno => ?_
  have hD : ∀ i, i < l.length → (dns l).getD i false = false → metB l (l.getD i zeroTe) (dns l) = false := by
    intro i hi hd
    rw [dns_at] at hd
    rw [met_done]
    cases hm : (l.getD i zeroTe).af.any (fun b => !doneB l b)
    · exfalso
      refine hno ⟨(l.getD i zeroTe).id, ?_, ?_⟩
      · unfold leftE
        refine List.mem_map.2 ⟨l.getD i zeroTe, List.mem_filter.2 ⟨by rw [getD_get l zeroTe i hi]; exact List.getElem_mem _, by rw [hd]; rfl⟩, rfl⟩
      · have e := find_self hR.dist hi
        unfold passT passAt
        rw [e, if_neg (by omega), Int.toNat_natCast, hd, if_neg (by decide), hm, if_neg (by decide)]
    · rfl
  have hb := rounds_below (T := List.replicate l.length false) hD (fun i h => by
    simp only [List.getD_eq_getElem?_getD, List.getElem?_replicate] at h
    split at h <;> cases h) l.length
  have hp := hR.pass
  rw [List.all_eq_true] at hp
  apply ho
  unfold leftE
  rw [List.map_eq_nil_iff, List.filter_eq_nil_iff]
  intro x hx
  obtain ⟨i, hi, rfl⟩ := List.getElem_of_mem hx
  have hlen : (roundsT l l.length (List.replicate l.length false)).length = l.length := by rw [roundsT_len]; simp
  have h1 := hb i (by rw [getD_get _ false i (by omega)]; exact hp _ (List.getElem_mem _))
  rw [dns_at, getD_get l zeroTe i hi] at h1
  rw [h1]
  decide
theorem left_set {l : List Te} (hD : DistI l) {s : ByteArray} {i : Nat} (h : PassYes l s i) : leftE (l.set i ⟨(l.getD i zeroTe).id, (l.getD i zeroTe).af, true⟩) = (leftE l).filter (fun x => !(x.toList == s.toList)) := by
  have hT := h.has
  unfold isT at hT
  rw [beq_iff_eq] at hT
  have hl : l = l.take i ++ l.getD i zeroTe :: l.drop (i + 1) := by
    rw [getD_get l zeroTe i h.lt]; simp
  have hs : l.set i ⟨(l.getD i zeroTe).id, (l.getD i zeroTe).af, true⟩ = l.take i ++ ⟨(l.getD i zeroTe).id, (l.getD i zeroTe).af, true⟩ :: l.drop (i + 1) := by
    rw [List.set_eq_take_append_cons_drop, if_pos h.lt]
  have keep : ∀ m : List Te, (∀ x ∈ m, (x.id.toList == s.toList) = false) → (leftE m).filter (fun x => !(x.toList == s.toList)) = leftE m := by
    intro m hm
    rw [List.filter_eq_self]
    intro x hx
    unfold leftE at hx
    obtain ⟨y, hy, rfl⟩ := List.mem_map.1 hx
    rw [hm y (List.mem_filter.1 hy).1]
    rfl
  have app : ∀ a b : List Te, leftE (a ++ b) = leftE a ++ leftE b := fun a b => by simp [leftE]
  have k1 := keep (l.take i) (fun x hx => by
    obtain ⟨j, hj, rfl⟩ := List.getElem_of_mem hx
    rw [List.length_take] at hj
    rw [List.getElem_take]
    have := hD j i (by omega) h.lt (by omega)
    rw [getD_get l zeroTe j (by omega), hT] at this
    exact this)
  have k2 := keep (l.drop (i + 1)) (fun x hx => by
    obtain ⟨j, hj, rfl⟩ := List.getElem_of_mem hx
    rw [List.length_drop] at hj
    rw [List.getElem_drop]
    have := hD (i + 1 + j) i (by omega) h.lt (by omega)
    rw [getD_get l zeroTe (i + 1 + j) (by omega), hT] at this
    exact this)
  have e1 : leftE (⟨(l.getD i zeroTe).id, (l.getD i zeroTe).af, true⟩ :: l.drop (i + 1)) = leftE (l.drop (i + 1)) := rfl
  have e2 : leftE (l.getD i zeroTe :: l.drop (i + 1)) = (l.getD i zeroTe).id :: leftE (l.drop (i + 1)) := by
    unfold leftE
    rw [List.filter_cons, h.opn]
    rfl
  rw [hs, app, e1]
  conv => rhs; rw [hl]
  rw [app, e2, List.filter_append, k1, List.filter_cons, hT]
  have e3 : (!(s.toList == s.toList)) = false := by simp
  rw [e3, if_neg (by decide), k2]
theorem left_set_len {l : List Te} {s : ByteArray} {i : Nat} (h : PassYes l s i) : (leftE (l.set i ⟨(l.getD i zeroTe).id, (l.getD i zeroTe).af, true⟩)).length + 1 = (leftE l).length := by
  have hl : l = l.take i ++ l.getD i zeroTe :: l.drop (i + 1) := by
    rw [getD_get l zeroTe i h.lt]; simp
  have hs : l.set i ⟨(l.getD i zeroTe).id, (l.getD i zeroTe).af, true⟩ = l.take i ++ ⟨(l.getD i zeroTe).id, (l.getD i zeroTe).af, true⟩ :: l.drop (i + 1) := by
    rw [List.set_eq_take_append_cons_drop, if_pos h.lt]
  have app : ∀ a b : List Te, leftE (a ++ b) = leftE a ++ leftE b := fun a b => by simp [leftE]
  have e1 : leftE (⟨(l.getD i zeroTe).id, (l.getD i zeroTe).af, true⟩ :: l.drop (i + 1)) = leftE (l.drop (i + 1)) := rfl
  have e2 : leftE (l.getD i zeroTe :: l.drop (i + 1)) = (l.getD i zeroTe).id :: leftE (l.drop (i + 1)) := by
    unfold leftE
    rw [List.filter_cons, h.opn]
    rfl
  rw [hs, app, e1]
  conv => rhs; rw [hl]
  rw [app, e2]
  simp only [List.length_append, List.length_cons]
  omega
/-- No test is done of which one in its After is not. -/
def OrdT (l : List Te) : Prop := ∀ i, i < l.length → (l.getD i zeroTe).dn = true → ∀ s ∈ (l.getD i zeroTe).af, ∀ j, j < l.length → isT s (l.getD j zeroTe) = true → (l.getD j zeroTe).dn = true
theorem ord_clean (l : List Te) : OrdT (cleanE l) := fun i hi hd => by
  rw [clean_at] at hd; cases hd
theorem ord_set {l : List Te} (hD : DistI l) (hO : OrdT l) {s : ByteArray} {i : Nat} (h : PassYes l s i) : OrdT (l.set i ⟨(l.getD i zeroTe).id, (l.getD i zeroTe).af, true⟩) := by
  intro k hk hd u hu j hj hT
  rw [List.length_set] at hk hj
  rw [set_at l i _ _ h.lt] at hd hu hT ⊢
  by_cases hij : i = j
  · rw [if_pos hij]
  rw [if_neg hij] at hT ⊢
  by_cases hik : i = k
  · rw [if_pos hik] at hu
    dsimp only at hu
    have hm := h.met
    rw [List.any_eq_false] at hm
    have h1 := hm u hu
    unfold isT at hT
    rw [beq_iff_eq] at hT
    have e : findE l u = j := by
      rw [← find_self hD hj]
      unfold findE isT
      rw [hT]
    simp only [Bool.not_eq_true', Bool.not_eq_false] at h1
    unfold doneB at h1
    rw [e, Int.toNat_natCast, Bool.and_eq_true] at h1
    exact h1.2
  · rw [if_neg hik] at hd hu
    exact hO k hk hd u hu j hj hT
end Go.Proofs
end
section
set_option linter.unusedVariables false
set_option linter.unusedSimpArgs false
namespace Go.Proofs
open Go Go.Ab
set_option maxHeartbeats 8000000
set_option maxRecDepth 100000
attribute [local irreducible] Awp aops aopsL Go.Ab.Pure PureOwn

theorem dns_step (l : List Te) (i : Nat) (h : i < l.length) : bls (dns (l.take (i + 1))) = bls (dns (l.take i)) ++ [[.v (.bool (l.getD i zeroTe).dn)]] := by
  rw [take_snoc l zeroTe i h]; simp [bls, dns]
theorem teBox_back {hd : Nat → Option Blk} {ρ : Nat → Nat} {nx b : Nat} {S : List ByteArray} {nm : ByteArray} {d : Bool} (hb : hd b = some (.row (strs S) 1 9)) : BView hd ρ nx (.box [.v (.string nm), .own b, .v (.bool d)]) (.box [.v (.string nm), .sl (strs S), .v (.bool d)]) := by
  refine .box rfl fun j hj => ?_
  match j, hj with
  | 0, _ => exact .low (.same _ rfl)
  | 1, _ => exact .low (.own hb)
  | 2, _ => exact .low (.same _ rfl)
theorem rpass_ok (l : List Te) (s : ByteArray) (hl : l.length < 10000) (haf : ∀ i, i < l.length → (l.getD i zeroTe).af.length < 100000) :
    Pure Tryz.prog 22 [.sl (tes l), .v (.string s)] (.tup [.sl (tes (passT l s).1), .v (.int .i64 (passT l s).2)]) := by
  have c0 := rfind_ok l s (by omega)
  unfold passT
  by_cases hF : findE l s < 0
  · rw [if_pos hF]
    generalize findE l s = F at *
    clear haf
    refine fn_pure Tryz.F22 (Nat.le_of_ble_eq_true rfl) ?_; unfold Tryz.ac22
    repeat' (first
 | (apply Awp.sreg; (case hn => (simp only [List.length_cons, List.length_nil, Nat.reduceAdd] <;> rfl)))
 | (refine st_nil ?_)
 | (apply st_a; (case hc => rfl); (case he => (simp only [go_sem, *] <;> rfl)); (case hu => (simp only [updL_nil, updL_cons] <;> rfl)); (case hp => first | trivial))
 | (apply st_c; (case hc => (simp only [go_sem, *] <;> rfl)); (case hl => (simp only [go_sem, *] <;> rfl)); (case hn => (simp only [go_sem, *] <;> rfl)); (case hp => first | exact c0 | (have hXz := c0; simp only [go_sem, *] at hXz; exact hXz)))
 | (refine Awp.ret ?_; try simp only [go_sem, *])
 | (apply Awp.cond; (case hc => (simp only [go_sem, *] <;> rfl)); all_goals (intro hg; (try simp only [Bool.not_true, Bool.not_false, reduceCtorEq] at hg)))
 | refine Awp.seq ?_)
    all_goals repeat' (first | exact Lower.int (by first | rfl | (simp only [true_and, Bool.true_and, Bool.false_and, Bool.and_true, Bool.and_false, Bool.true_or, Bool.false_or, reduceIte, Bool.false_eq_true, *]; done) | (simp only [true_and, reduceIte, Bool.false_eq_true, *] <;> rfl) | (simp [true_and]; done) | (simp_all [true_and]; done) | omega) | exact Lower.nilE (by first | rfl | (simp only [true_and, Bool.true_and, Bool.false_and, Bool.and_true, Bool.and_false, Bool.true_or, Bool.false_or, reduceIte, Bool.false_eq_true, *]; done) | (simp only [true_and, reduceIte, Bool.false_eq_true, *] <;> rfl) | (simp [true_and]; done) | (simp_all [true_and]; done) | omega) | refine Lower.tupF ?_ | refine All2.cons ?_ ?_ | exact All2.nil)
  rw [if_neg hF]
  obtain ⟨i, hil, hFi, _⟩ := find_in hF
  rw [hFi] at c0 ⊢
  clear hF hFi
  rw [Int.toNat_natCast]
  have hi0 : decide ((i : Int) < 0) = false := decide_eq_false (by omega)
  have hi0' : (0 : Int) ≤ i := by omega
  have hil' : (i : Int) < l.length := by omega
  have hat := tes_at l i hil
  have hz : ((l.getD i zeroTe).cells).length = 3 := rfl
  have hafi := haf i hil
  unfold passAt
  have c1 := met_ok l (l.getD i zeroTe) (dns l) hl hafi (dns_len l)
  rw [met_done] at c1
  obtain ⟨q, hq⟩ : ∃ q, l.getD i zeroTe = q := ⟨_, rfl⟩
  rw [hq] at hat hz hafi c1 ⊢
  cases hdn : q.dn
  case true =>
    rw [if_pos rfl]
    clear haf hq c1
    refine fn_pure Tryz.F22 (Nat.le_of_ble_eq_true rfl) ?_; unfold Tryz.ac22
    repeat' (first
 | (apply Awp.sreg; (case hn => (simp only [List.length_cons, List.length_nil, Nat.reduceAdd] <;> rfl)))
 | (refine st_nil ?_)
 | (apply st_a; (case hc => rfl); (case he => (simp only [go_sem, *] <;> rfl)); (case hu => (simp only [updL_nil, updL_cons] <;> rfl)); (case hp => first | trivial))
 | (apply st_c; (case hc => (simp only [go_sem, *] <;> rfl)); (case hl => (simp only [go_sem, *] <;> rfl)); (case hn => (simp only [go_sem, *] <;> rfl)); (case hp => first | exact c0 | (have hXz := c0; simp only [go_sem, *] at hXz; exact hXz)))
 | (refine Awp.ret ?_; try simp only [go_sem, *])
 | (refine Awp.skip ?_; try simp only [go_sem, *])
 | (apply Awp.cond; (case hc => (simp only [go_sem, *] <;> rfl)); all_goals (intro hg; (try simp only [Bool.not_true, Bool.not_false, reduceCtorEq] at hg)))
 | refine Awp.seq ?_)
    all_goals repeat' (first | exact Lower.int (by first | rfl | (simp only [true_and, Bool.true_and, Bool.false_and, Bool.and_true, Bool.and_false, Bool.true_or, Bool.false_or, reduceIte, Bool.false_eq_true, *]; done) | (simp only [true_and, reduceIte, Bool.false_eq_true, *] <;> rfl) | (simp [true_and]; done) | (simp_all [true_and]; done) | omega) | exact Lower.nilE (by first | rfl | (simp only [true_and, Bool.true_and, Bool.false_and, Bool.and_true, Bool.and_false, Bool.true_or, Bool.false_or, reduceIte, Bool.false_eq_true, *]; done) | (simp only [true_and, reduceIte, Bool.false_eq_true, *] <;> rfl) | (simp [true_and]; done) | (simp_all [true_and]; done) | omega) | refine Lower.tupF ?_ | refine All2.cons ?_ ?_ | exact All2.nil)
  rw [if_neg (by decide)]
  refine fn_pure Tryz.F22 (Nat.le_of_ble_eq_true rfl) ?_; unfold Tryz.ac22
  repeat' (first
 | (apply Awp.sreg; (case hn => (simp only [List.length_cons, List.length_nil, Nat.reduceAdd] <;> rfl)))
 | (refine st_nil ?_)
 | (apply st_a; (case hc => rfl); (case he => (simp only [go_sem, *] <;> rfl)); (case hu => (simp only [updL_nil, updL_cons] <;> rfl)); (case hp => first | trivial))
 | (apply st_c; (case hc => (simp only [go_sem, *] <;> rfl)); (case hl => (simp only [go_sem, *] <;> rfl)); (case hn => (simp only [go_sem, *] <;> rfl)); (case hp => first | exact c0 | (have hXz := c0; simp only [go_sem, *] at hXz; exact hXz)))
 | (refine Awp.skip ?_; try simp only [go_sem, *])
 | refine Awp.block ?_
 | (apply Awp.cond; (case hc => (simp only [go_sem, *] <;> rfl)); all_goals (intro hg; (try simp only [Bool.not_true, Bool.not_false, reduceCtorEq] at hg)))
 | refine Awp.seq ?_)
  clear c0
  refine Awp.loop (fun k : Nat => k ≤ l.length) 60 (fun k => mkS [(0, .sl (tes l)), (6, .v (.int .i64 i)), (7, .own 0), (8, .v (.int .i64 k))] [(0, .row (bls (dns (l.take k))) 1 4)]) (fun k => l.length - k) 0 (by omega) ?_ ?_
  · clear haf c1 hq
    refine Ghost.trans (Ghost.name 7 1 4 rfl (by decide)) ?_
    (apply Ghost.mk [(0, 15)] []; (case hdead => rfl); (case hinj => rfl); (case hV => (simp only [go_sem, *]) <;> (repeat' (first | refine And.intro ?_ ?_ | exact View.int (by first | rfl | omega | (simp; done) | (rw [wrap_i64] <;> (try simp only [Int.natCast_add]) <;> omega) | (simp [*]; done)) | exact .own rfl (by decide)))); (case hB => (simp only [go_sem, *]) <;> (repeat' (first | exact ⟨_, rfl, .rowE (by first | rfl | omega | (simp; done) | (rw [wrap_i64] <;> (try simp only [Int.natCast_add]) <;> omega) | (simp [*]; done))⟩))))
  · intro k hk
    by_cases hkl : k < l.length
    · have hkl' : (k : Int) < l.length := by omega
      have hatk := tes_at l k hkl
      have hzk : ((l.getD k zeroTe).cells).length = 3 := rfl
      have hst := dns_step l k hkl
      have htl : (l.take k).length = k := List.length_take_of_le hk
      have hbl : (bls (dns (l.take k))).length = k := by rw [bls_len, dns_len, htl]
      clear hat c1 haf hq htl
      generalize l.getD k zeroTe = y at *
      repeat' (first
 | (apply Awp.sreg; (case hn => (simp only [List.length_cons, List.length_nil, Nat.reduceAdd] <;> rfl)))
 | (refine st_nil ?_)
 | (apply st_a; (case hc => rfl); (case he => (simp only [go_sem, *] <;> rfl)); (case hu => (simp only [updL_nil, updL_cons] <;> rfl)); (case hp => first | trivial | omega | (simp; done) | (simp; omega)))
 | (apply Awp.reg; (case hn => (simp only [List.length_cons, List.length_nil, Nat.reduceAdd] <;> rfl)))
 | (refine Awp.skip ?_; try simp only [go_sem, *])
 | refine Awp.block ?_
 | (apply Awp.cond; (case hc => (simp only [go_sem, *] <;> rfl)); all_goals (intro hg; (try simp only [Bool.not_true, Bool.not_false, reduceCtorEq] at hg)))
 | refine Awp.seq ?_)
      all_goals (refine ⟨k + 1, by omega, by omega, ?_⟩; rw [hst]; clear hst; (apply Ghost.mk [(0, 71)] []; (case hdead => rfl); (case hinj => rfl); (case hV => (simp only [go_sem, *]) <;> (repeat' (first | refine And.intro ?_ ?_ | exact View.int (by first | rfl | omega | (simp; done) | (rw [wrap_i64] <;> (try simp only [Int.natCast_add]) <;> omega) | (simp [*]; done)) | exact .own rfl (by decide)))); (case hB => (simp only [go_sem, *]) <;> (repeat' (first | exact ⟨_, rfl, .rowE (by first | rfl | omega | (simp; done) | (rw [wrap_i64] <;> (try simp only [Int.natCast_add]) <;> omega) | (simp [*]; done))⟩)))))
    · have hkl' : ¬ (k : Int) < l.length := by omega
      have e1 : l.take k = l := List.take_of_length_le (by omega)
      rw [e1]
      clear e1 hk hkl
      cases hA : q.af.any (fun b => !doneB l b)
      case true =>
        rw [hA] at c1
        rw [if_pos rfl]
        clear haf hq hA
        repeat' (first
 | (apply Awp.sreg; (case hn => (simp only [List.length_cons, List.length_nil, Nat.reduceAdd] <;> rfl)))
 | (refine st_nil ?_)
 | (apply st_a; (case hc => rfl); (case he => (simp only [go_sem, *] <;> rfl)); (case hu => (simp only [updL_nil, updL_cons] <;> rfl)); (case hp => first | trivial))
 | (apply st_cd; (case hc => (simp only [go_sem, *] <;> rfl)); (case hl => (simp only [go_sem, *] <;> rfl)); (case hn => (simp only [go_sem, *] <;> rfl)); (case hp => first | exact c1 | (have hXz := c1; simp only [go_sem, *] at hXz; exact hXz)); (case hd => first | exact .v _ | exact .any | exact .nils | (repeat' (first | exact Dry.v _ | exact Dry.any | exact Dry.nils | exact Dry.slE | refine Dry.agg ?_ | refine Dry.tup ?_ | (refine List.forall_mem_cons.2 (And.intro ?_ ?_)) | (intro cQ hQ; cases hQ; done)))); (case hm => first | decide | (simp; done)))
 | (refine Awp.ret ?_; try simp only [go_sem, *])
 | (refine Awp.exit ?_; try simp only [go_sem, *])
 | (apply Awp.cond; (case hc => (simp only [go_sem, *] <;> rfl)); all_goals (intro hg; (try simp only [Bool.not_true, Bool.not_false, reduceCtorEq] at hg)))
 | refine Awp.seq ?_)
        all_goals repeat' (first | exact Lower.int (by first | rfl | (simp only [true_and, Bool.true_and, Bool.false_and, Bool.and_true, Bool.and_false, Bool.true_or, Bool.false_or, reduceIte, Bool.false_eq_true, *]; done) | (simp only [true_and, reduceIte, Bool.false_eq_true, *] <;> rfl) | (simp [true_and]; done) | (simp_all [true_and]; done) | omega) | exact Lower.nilE (by first | rfl | (simp only [true_and, Bool.true_and, Bool.false_and, Bool.and_true, Bool.and_false, Bool.true_or, Bool.false_or, reduceIte, Bool.false_eq_true, *]; done) | (simp only [true_and, reduceIte, Bool.false_eq_true, *] <;> rfl) | (simp [true_and]; done) | (simp_all [true_and]; done) | omega) | refine Lower.tupF ?_ | refine All2.cons ?_ ?_ | exact All2.nil)
      rw [hA] at c1
      rw [if_neg (by decide)]
      obtain ⟨L, hL⟩ : ∃ L, l.set i ⟨q.id, q.af, true⟩ = L := ⟨_, rfl⟩
      rw [hL]
      have hLl : L.length = l.length := by rw [← hL]; simp
      have hLk : ∀ j, j < l.length → L.getD j zeroTe = ⟨(l.getD j zeroTe).id, (l.getD j zeroTe).af, (l.getD j zeroTe).dn || (j == i)⟩ := by
        intro j hj
        rw [← hL]
        by_cases hij : i = j
        · subst hij
          rw [hq]
          simp [List.getD_eq_getElem?_getD, hj]
        · have : (j == i) = false := by rw [beq_eq_false_iff_ne]; omega
          rw [this, Bool.or_false]
          simp [List.getD_eq_getElem?_getD, List.getElem?_set, hij]
      clear hA hq hL
      repeat' (first
 | (apply Awp.sreg; (case hn => (simp only [List.length_cons, List.length_nil, Nat.reduceAdd] <;> rfl)))
 | (refine st_nil ?_)
 | (apply st_a; (case hc => rfl); (case he => (simp only [go_sem, *] <;> rfl)); (case hu => (simp only [updL_nil, updL_cons] <;> rfl)); (case hp => first | trivial))
 | (apply st_cd; (case hc => (simp only [go_sem, *] <;> rfl)); (case hl => (simp only [go_sem, *] <;> rfl)); (case hn => (simp only [go_sem, *] <;> rfl)); (case hp => first | exact c1 | (have hXz := c1; simp only [go_sem, *] at hXz; exact hXz)); (case hd => first | exact .v _ | exact .any | exact .nils | (repeat' (first | exact Dry.v _ | exact Dry.any | exact Dry.nils | exact Dry.slE | refine Dry.agg ?_ | refine Dry.tup ?_ | (refine List.forall_mem_cons.2 (And.intro ?_ ?_)) | (intro cQ hQ; cases hQ; done)))); (case hm => first | decide | (simp; done)))
 | (refine Awp.skip ?_; try simp only [go_sem, *])
 | (refine Awp.exit ?_; try simp only [go_sem, *])
 | refine Awp.block ?_
 | (apply Awp.cond; (case hc => (simp only [go_sem, *] <;> rfl)); all_goals (intro hg; (try simp only [Bool.not_true, Bool.not_false, reduceCtorEq] at hg)))
 | refine Awp.seq ?_)
      clear c1 hkl' hat
      refine Awp.loop (fun k : Nat => k ≤ l.length) 100 (fun k => mkS [(0, .sl (tes l)), (6, .v (.int .i64 i)), (9, .own 0), (10, .v (.int .i64 k))] [(0, .row (tes (L.take k)) 3 55)]) (fun k => l.length - k) 0 (by omega) ?_ ?_
      · clear haf hLk hLl
        refine Ghost.trans (Ghost.name 9 3 55 rfl (by decide)) ?_
        (apply Ghost.mk [(0, 74)] []; (case hdead => rfl); (case hinj => rfl); (case hV => (simp only [go_sem, *]) <;> (repeat' (first | refine And.intro ?_ ?_ | exact View.int (by first | rfl | omega | (simp; done) | (rw [wrap_i64] <;> (try simp only [Int.natCast_add]) <;> omega) | (simp [*]; done)) | exact .own rfl (by decide)))); (case hB => (simp only [go_sem, *]) <;> (repeat' (first | exact ⟨_, rfl, .rowE (by first | rfl | omega | (simp; done) | (rw [wrap_i64] <;> (try simp only [Int.natCast_add]) <;> omega) | (simp [*]; done))⟩))))
      · intro k hk
        by_cases hkl : k < l.length
        · have hkl' : (k : Int) < l.length := by omega
          have hatk := tes_at l k hkl
          have hzk : ((l.getD k zeroTe).cells).length = 3 := rfl
          have hst : tes (L.take (k + 1)) = tes (L.take k) ++ [(L.getD k zeroTe).cells] := by rw [take_snoc L zeroTe k (by omega), tes_snoc]
          rw [hLk k hkl] at hst
          have hafk := haf k hkl
          have htl : (L.take k).length = k := List.length_take_of_le (by omega)
          have hbl : (tes (L.take k)).length = k := by rw [tes_len, htl]
          clear haf hLk htl
          have hso := strs_one0 (l.getD k zeroTe).af
          have hln : (strs (l.getD k zeroTe).af).length = (l.getD k zeroTe).af.length := by simp [strs]
          obtain ⟨y, hy⟩ : ∃ y, l.getD k zeroTe = y := ⟨_, rfl⟩
          rw [hy] at hst hatk hzk hafk hso hln
          clear hy
          cases hd : y.dn
          · rw [hd, Bool.false_or] at hst
            repeat' (first
 | (apply Awp.sreg; (case hn => (simp only [List.length_cons, List.length_nil, Nat.reduceAdd] <;> rfl)))
 | (apply Awp.sdraw; (case hn => (simp only [List.length_cons, List.length_nil, Nat.reduceAdd] <;> rfl)))
 | (refine st_nil ?_)
 | (apply st_a; (case hc => rfl); (case he => (simp only [go_sem, *] <;> rfl)); (case hu => (simp only [updL_nil, updL_cons] <;> rfl)); (case hp => first | trivial))
 | (refine Awp.skip ?_; try simp only [go_sem, *])
 | refine Awp.block ?_
 | (apply Awp.cond; (case hc => (simp only [go_sem, *] <;> rfl)); all_goals (intro hg; (try simp only [Bool.not_true, Bool.not_false, reduceCtorEq] at hg)))
 | refine Awp.seq ?_)
            repeat' (first
 | (refine Awp.draw ?_)
 | (apply sl_a; (case hc => rfl); (case he => (simp only [go_sem, *] <;> rfl)); (case hu => (simp only [updL_nil, updL_cons] <;> rfl)); (case hl => (simp only [List.map_cons, List.map_nil] <;> rfl)); (case hp => first | trivial | omega | ((repeat' (refine And.intro ?_ ?_)) <;> first | trivial | assumption | omega | (simp; done) | (simp; omega) | (simp [*]; done))))
 | (apply sl_gu; (case hv => (simp only [go_sem, *] <;> rfl)))
 | (apply sl_gn; (case hv => (simp only [go_sem, *] <;> rfl)); (case hbw => rfl))
 | (apply sl_ga; (case hb => rfl); (case hv => (simp only [go_sem, *] <;> rfl)); (case he => (simp only [go_sem, *] <;> rfl)); (case hu => (simp only [updL_nil, updL_cons] <;> rfl)); (case hl => (simp only [List.map_cons, List.map_nil] <;> rfl)); (case hp => first | trivial))
 | (apply sl_case; (case hv => (simp only [go_sem, *] <;> rfl)); all_goals (intro hg; (try simp only [Bool.not_true, Bool.not_false, reduceCtorEq] at hg); (try have hg' := hg); (try simp only [decide_eq_true_eq, decide_eq_false_iff_not, Bool.and_eq_true, Bool.or_eq_false_iff, bne_iff_ne, bne_eq_false_iff_eq, beq_iff_eq, beq_eq_false_iff_ne, Int.not_lt, Int.not_le, Int.ofNat_lt, Int.ofNat_le, Int.natCast_inj] at hg')))
 | (refine sl_nil (And.intro (by first | exact drawOk_of (by decide +kernel) | (simp only [List.map_cons, List.map_nil]; exact drawOk_of (by decide +kernel)) | decide) ?_)))
            refine Awp.ghost (nx' := 200) (S' := mkS [(0, .sl (tes l)), (6, .v (.int .i64 i)), (9, .own 0), (10, .v (.int .i64 k)), (11, .bp 1 0)] [(0, .row (tes (L.take k)) 3 55), (1, .box [.v (.string y.id), .sl (strs y.af), .v (.bool (k == i))])]) ?_ ?_
            · clear hst
              (apply Ghost.mk [(0, 0), (1, 127)] [115]; (case hdead => rfl); (case hinj => rfl); (case hV => (simp only [go_sem, *]) <;> (repeat' (first | refine And.intro ?_ ?_ | exact .bp rfl (by decide) | exact .own rfl (by decide)))); (case hB => (simp only [go_sem, *]) <;> (repeat' (first | refine And.intro ?_ ?_ | exact ⟨_, rfl, teBox_back rfl⟩ | exact ⟨_, rfl, .rowE (by first | rfl | omega | (simp; done) | (rw [wrap_i64] <;> (try simp only [Int.natCast_add]) <;> omega) | (simp [*]; done))⟩))))
            · repeat' (first
 | (refine st_nil ?_)
 | (apply st_a; (case hc => rfl); (case he => (simp only [go_sem, *] <;> rfl)); (case hu => (simp only [updL_nil, updL_cons] <;> rfl)); (case hp => first | trivial | (simp; done) | (simp; omega)))
 | (apply Awp.reg; (case hn => (simp only [List.length_cons, List.length_nil, Nat.reduceAdd] <;> rfl))))
              all_goals (refine ⟨k + 1, by omega, by omega, ?_⟩; rw [hst]; clear hst; (apply Ghost.mk [(0, 203)] []; (case hdead => rfl); (case hinj => rfl); (case hV => (simp only [go_sem, *]) <;> (repeat' (first | refine And.intro ?_ ?_ | exact View.int (by first | rfl | omega | (simp; done) | (rw [wrap_i64] <;> (try simp only [Int.natCast_add]) <;> omega) | (simp [*]; done)) | exact .own rfl (by decide)))); (case hB => (simp only [go_sem, *]) <;> (repeat' (first | exact ⟨_, rfl, .rowE (by first | rfl | omega | (simp; done) | (rw [wrap_i64] <;> (try simp only [Int.natCast_add]) <;> omega) | (simp [*]; done))⟩)))))
          · rw [hd, Bool.true_or] at hst
            repeat' (first
 | (apply Awp.sreg; (case hn => (simp only [List.length_cons, List.length_nil, Nat.reduceAdd] <;> rfl)))
 | (apply Awp.sdraw; (case hn => (simp only [List.length_cons, List.length_nil, Nat.reduceAdd] <;> rfl)))
 | (refine st_nil ?_)
 | (apply st_a; (case hc => rfl); (case he => (simp only [go_sem, *] <;> rfl)); (case hu => (simp only [updL_nil, updL_cons] <;> rfl)); (case hp => first | trivial))
 | (refine Awp.skip ?_; try simp only [go_sem, *])
 | refine Awp.block ?_
 | (apply Awp.cond; (case hc => (simp only [go_sem, *] <;> rfl)); all_goals (intro hg; (try simp only [Bool.not_true, Bool.not_false, reduceCtorEq] at hg)))
 | refine Awp.seq ?_)
            repeat' (first
 | (refine Awp.draw ?_)
 | (apply sl_a; (case hc => rfl); (case he => (simp only [go_sem, *] <;> rfl)); (case hu => (simp only [updL_nil, updL_cons] <;> rfl)); (case hl => (simp only [List.map_cons, List.map_nil] <;> rfl)); (case hp => first | trivial | omega | ((repeat' (refine And.intro ?_ ?_)) <;> first | trivial | assumption | omega | (simp; done) | (simp; omega) | (simp [*]; done))))
 | (apply sl_gu; (case hv => (simp only [go_sem, *] <;> rfl)))
 | (apply sl_gn; (case hv => (simp only [go_sem, *] <;> rfl)); (case hbw => rfl))
 | (apply sl_ga; (case hb => rfl); (case hv => (simp only [go_sem, *] <;> rfl)); (case he => (simp only [go_sem, *] <;> rfl)); (case hu => (simp only [updL_nil, updL_cons] <;> rfl)); (case hl => (simp only [List.map_cons, List.map_nil] <;> rfl)); (case hp => first | skip; done))
 | (apply sl_case; (case hv => (simp only [go_sem, *] <;> rfl)); all_goals (intro hg; (try simp only [Bool.not_true, Bool.not_false, reduceCtorEq] at hg); (try have hg' := hg); (try simp only [decide_eq_true_eq, decide_eq_false_iff_not, Bool.and_eq_true, Bool.or_eq_false_iff, bne_iff_ne, bne_eq_false_iff_eq, beq_iff_eq, beq_eq_false_iff_ne, Int.not_lt, Int.not_le, Int.ofNat_lt, Int.ofNat_le, Int.natCast_inj] at hg')))
 | (refine sl_nil (And.intro (by first | exact drawOk_of (by decide +kernel) | (simp only [List.map_cons, List.map_nil]; exact drawOk_of (by decide +kernel)) | decide) ?_)))
            refine Awp.ghost (nx' := 200) (S' := mkS [(0, .sl (tes l)), (6, .v (.int .i64 i)), (9, .own 0), (10, .v (.int .i64 k)), (11, .bp 1 0)] [(0, .row (tes (L.take k)) 3 55), (1, .box [.v (.string y.id), .sl (strs y.af), .v (.bool (true))])]) ?_ ?_
            · clear hst
              (apply Ghost.mk [(0, 0), (1, 127)] [115]; (case hdead => rfl); (case hinj => rfl); (case hV => (simp only [go_sem, *]) <;> (repeat' (first | refine And.intro ?_ ?_ | exact .bp rfl (by decide) | exact .own rfl (by decide)))); (case hB => (simp only [go_sem, *]) <;> (repeat' (first | refine And.intro ?_ ?_ | exact ⟨_, rfl, teBox_back rfl⟩ | exact ⟨_, rfl, .rowE (by first | rfl | omega | (simp; done) | (rw [wrap_i64] <;> (try simp only [Int.natCast_add]) <;> omega) | (simp [*]; done))⟩))))
            · repeat' (first
 | (refine st_nil ?_)
 | (apply st_a; (case hc => rfl); (case he => (simp only [go_sem, *] <;> rfl)); (case hu => (simp only [updL_nil, updL_cons] <;> rfl)); (case hp => first | trivial | (simp; done) | (simp; omega)))
 | (apply Awp.reg; (case hn => (simp only [List.length_cons, List.length_nil, Nat.reduceAdd] <;> rfl))))
              all_goals (refine ⟨k + 1, by omega, by omega, ?_⟩; rw [hst]; clear hst; (apply Ghost.mk [(0, 203)] []; (case hdead => rfl); (case hinj => rfl); (case hV => (simp only [go_sem, *]) <;> (repeat' (first | refine And.intro ?_ ?_ | exact View.int (by first | rfl | omega | (simp; done) | (rw [wrap_i64] <;> (try simp only [Int.natCast_add]) <;> omega) | (simp [*]; done)) | exact .own rfl (by decide)))); (case hB => (simp only [go_sem, *]) <;> (repeat' (first | exact ⟨_, rfl, .rowE (by first | rfl | omega | (simp; done) | (rw [wrap_i64] <;> (try simp only [Int.natCast_add]) <;> omega) | (simp [*]; done))⟩)))))
        · have hkl' : ¬ (k : Int) < l.length := by omega
          have e1 : L.take k = L := List.take_of_length_le (by omega)
          rw [e1]
          clear e1 haf hLk
          repeat' (first
 | (apply Awp.sreg; (case hn => (simp only [List.length_cons, List.length_nil, Nat.reduceAdd] <;> rfl)))
 | (refine st_nil ?_)
 | (apply st_a; (case hc => rfl); (case he => (simp only [go_sem, *] <;> rfl)); (case hu => (simp only [updL_nil, updL_cons] <;> rfl)); (case hp => first | trivial))
 | (refine Awp.ret ?_; try simp only [go_sem, *])
 | (refine Awp.exit ?_; try simp only [go_sem, *])
 | (apply Awp.cond; (case hc => (simp only [go_sem, *] <;> rfl)); all_goals (intro hg; (try simp only [Bool.not_true, Bool.not_false, reduceCtorEq] at hg)))
 | refine Awp.seq ?_)
          all_goals repeat' (first | exact Lower.int (by first | rfl | (simp only [true_and, Bool.true_and, Bool.false_and, Bool.and_true, Bool.and_false, Bool.true_or, Bool.false_or, reduceIte, Bool.false_eq_true, *]; done) | (simp only [true_and, reduceIte, Bool.false_eq_true, *] <;> rfl) | (simp [true_and]; done) | (simp_all [true_and]; done) | omega) | exact Lower.ownE (by simp only [go_sem, *] <;> rfl) (by first | rfl | (simp only [true_and, Bool.true_and, Bool.false_and, Bool.and_true, Bool.and_false, Bool.true_or, Bool.false_or, reduceIte, Bool.false_eq_true, *]; done) | (simp only [true_and, reduceIte, Bool.false_eq_true, *] <;> rfl) | (simp [true_and]; done) | (simp_all [true_and]; done) | omega) | refine Lower.tupF ?_ | refine All2.cons ?_ ?_ | exact All2.nil)
theorem tests_ok (l : List Te) (s : ByteArray) : Pure Tryz.prog 5 [.sl (tes l), .v (.string s)] (.v (.bool true)) := by
  have c0 := few_ok l
  cases h1 : fewB l
  · rw [h1] at c0
    refine fn_pure Tryz.F5 (Nat.le_of_ble_eq_true rfl) ?_; unfold Tryz.ac5
    repeat' (first
 | (apply Awp.sreg; (case hn => (simp only [List.length_cons, List.length_nil, Nat.reduceAdd] <;> rfl)))
 | (refine st_nil ?_)
 | (apply st_a; (case hc => rfl); (case he => (simp only [go_sem, *] <;> rfl)); (case hu => (simp only [updL_nil, updL_cons] <;> rfl)); (case hp => first | trivial))
 | (apply st_c; (case hc => (simp only [go_sem, *] <;> rfl)); (case hl => (simp only [go_sem, *] <;> rfl)); (case hn => (simp only [go_sem, *] <;> rfl)); (case hp => first | exact c0 | (have hXz := c0; simp only [go_sem, *] at hXz; exact hXz)))
 | (apply st_c; (case hc => (simp only [go_sem, *] <;> rfl)); (case hl => (simp only [go_sem, *] <;> rfl)); (case hn => (simp only [go_sem, *] <;> rfl)); (case hp => first | exact awake_ok | (have hXz := awake_ok; simp only [go_sem, *] at hXz; exact hXz)))
 | (refine Awp.ret ?_; try simp only [go_sem, *])
 | (apply Awp.cond; (case hc => (simp only [go_sem, *] <;> rfl)); all_goals (intro hg; (try simp only [Bool.not_true, Bool.not_false, reduceCtorEq] at hg)))
 | refine Awp.seq ?_)
    all_goals repeat' (first | exact Lower.bool (by first | rfl | (simp only [true_and, Bool.true_and, Bool.false_and, Bool.and_true, Bool.and_false, Bool.true_or, Bool.false_or, reduceIte, Bool.false_eq_true, *]; done) | (simp only [true_and, reduceIte, Bool.false_eq_true, *] <;> rfl) | (simp [true_and]; done) | (simp_all [true_and]; done) | omega))
  rw [h1] at c0
  obtain ⟨h2, h3⟩ := few_get h1
  have haf : ∀ i, i < l.length → (l.getD i zeroTe).af.length < 100000 := fun i hi => by have := (h3 i hi).2; omega
  have c1 := pass_ok l s (by omega) haf
  have c2 := rpass_ok l s (by omega) haf
  have c3 := checkT_ok l (by omega) haf
  have c4 := rcheckT_ok l (by omega) (fun i hi => ⟨by have := (h3 i hi).1; omega, haf i hi⟩)
  obtain ⟨k1, k2⟩ := pass_small l s
  have c5 := samete_ok (passT l s).1 (by omega) (fun i hi => by rw [k2 i hi]; have := haf i (by omega); omega)
  have c6 := left_ok l (by omega)
  have c7 := rleft_ok l (by omega)
  have hll := leftE_len l
  have c8 := samest_ok (leftE l) (by omega)
  clear haf h3 k1 k2 h1 h2 hll
  generalize (passT l s).1 = L at *
  generalize (passT l s).2 = E at *
  generalize chkT l = C at *
  generalize leftE l = F at *
  have e1 : (E == E) = true := by simp
  have e2 : (C == C) = true := by simp
  refine fn_pure Tryz.F5 (Nat.le_of_ble_eq_true rfl) ?_; unfold Tryz.ac5
  repeat' (first
 | (apply Awp.sreg; (case hn => (simp only [List.length_cons, List.length_nil, Nat.reduceAdd] <;> rfl)))
 | (refine st_nil ?_)
 | (apply st_a; (case hc => rfl); (case he => (simp only [go_sem, *] <;> rfl)); (case hu => (simp only [updL_nil, updL_cons] <;> rfl)); (case hp => first | trivial))
 | (apply st_m; (case hc => rfl); (case hg => (simp only [go_sem, *] <;> rfl)); (case he => (intro hQz; (try simp only [wantB_t, wantB_f, Bool.and_eq_true, Bool.not_eq_true', Bool.not_true, Bool.not_false, and_true, true_and] at hQz); simp only [go_sem, *] <;> rfl)); (case hp => (intro hQz; (try simp only [wantB_t, wantB_f, Bool.and_eq_true, Bool.not_eq_true', Bool.or_eq_false_iff, decide_eq_true_eq, decide_eq_false_iff_not, beq_iff_eq, beq_eq_false_iff_ne, bne_iff_ne, bne_eq_false_iff_eq, Int.not_lt, Int.not_le, Int.ofNat_lt, Int.ofNat_le] at hQz); first | trivial)))
 | (apply st_c; (case hc => (simp only [go_sem, *] <;> rfl)); (case hl => (simp only [go_sem, *] <;> rfl)); (case hn => (simp only [go_sem, *] <;> rfl)); (case hp => first | exact c0 | (have hXz := c0; simp only [go_sem, *] at hXz; exact hXz)))
 | (apply st_c; (case hc => (simp only [go_sem, *] <;> rfl)); (case hl => (simp only [go_sem, *] <;> rfl)); (case hn => (simp only [go_sem, *] <;> rfl)); (case hp => first | exact c1 | (have hXz := c1; simp only [go_sem, *] at hXz; exact hXz)))
 | (apply st_c; (case hc => (simp only [go_sem, *] <;> rfl)); (case hl => (simp only [go_sem, *] <;> rfl)); (case hn => (simp only [go_sem, *] <;> rfl)); (case hp => first | exact c2 | (have hXz := c2; simp only [go_sem, *] at hXz; exact hXz)))
 | (apply st_c; (case hc => (simp only [go_sem, *] <;> rfl)); (case hl => (simp only [go_sem, *] <;> rfl)); (case hn => (simp only [go_sem, *] <;> rfl)); (case hp => first | exact c3 | (have hXz := c3; simp only [go_sem, *] at hXz; exact hXz)))
 | (apply st_c; (case hc => (simp only [go_sem, *] <;> rfl)); (case hl => (simp only [go_sem, *] <;> rfl)); (case hn => (simp only [go_sem, *] <;> rfl)); (case hp => first | exact c4 | (have hXz := c4; simp only [go_sem, *] at hXz; exact hXz)))
 | (apply st_mc; (case hop => rfl); (case hg => (simp only [go_sem, *] <;> rfl)); (case hc => (intro hQz; (try simp only [wantB_t, wantB_f, Bool.and_eq_true, Bool.not_eq_true', Bool.not_true, Bool.not_false, and_true, true_and] at hQz); simp only [go_sem, *] <;> rfl)); (case hl => (intro hQz; (try simp only [wantB_t, wantB_f, Bool.and_eq_true, Bool.not_eq_true', Bool.not_true, Bool.not_false, and_true, true_and] at hQz); simp only [go_sem, *] <;> rfl)); (case hn => (intro hQz; (try simp only [wantB_t, wantB_f, Bool.and_eq_true, Bool.not_eq_true', Bool.not_true, Bool.not_false, and_true, true_and] at hQz); simp only [go_sem, *] <;> rfl)); (case hp => intro hQz; first | exact c5 | (have hXz := c5; simp only [go_sem, *] at hXz; exact hXz)))
 | (apply st_co; (case hc => (simp only [go_sem, *] <;> rfl)); (case hl => (simp only [go_sem, *] <;> rfl)); (case hn => (simp only [go_sem, *] <;> rfl)); (case hp => first | exact c6 | (have hXz := c6; simp only [go_sem, *] at hXz; exact hXz)))
 | (apply st_co; (case hc => (simp only [go_sem, *] <;> rfl)); (case hl => (simp only [go_sem, *] <;> rfl)); (case hn => (simp only [go_sem, *] <;> rfl)); (case hp => first | exact c7 | (have hXz := c7; simp only [go_sem, *] at hXz; exact hXz)))
 | (apply st_cd; (case hc => (simp only [go_sem, *] <;> rfl)); (case hl => (simp only [go_sem, *] <;> rfl)); (case hn => (simp only [go_sem, *] <;> rfl)); (case hp => first | exact c8 | (have hXz := c8; simp only [go_sem, *] at hXz; exact hXz)); (case hd => first | exact .v _ | exact .any | exact .nils | (repeat' (first | exact Dry.v _ | exact Dry.any | exact Dry.nils | exact Dry.slE | refine Dry.agg ?_ | refine Dry.tup ?_ | (refine List.forall_mem_cons.2 (And.intro ?_ ?_)) | (intro cQ hQ; cases hQ; done)))); (case hm => first | decide | (simp; done)))
 | (apply st_mc; (case hop => rfl); (case hg => (simp only [go_sem, *] <;> rfl)); (case hc => (intro hQz; (try simp only [wantB_t, wantB_f, Bool.and_eq_true, Bool.not_eq_true', Bool.not_true, Bool.not_false, and_true, true_and] at hQz); simp only [go_sem, *] <;> rfl)); (case hl => (intro hQz; (try simp only [wantB_t, wantB_f, Bool.and_eq_true, Bool.not_eq_true', Bool.not_true, Bool.not_false, and_true, true_and] at hQz); simp only [go_sem, *] <;> rfl)); (case hn => (intro hQz; (try simp only [wantB_t, wantB_f, Bool.and_eq_true, Bool.not_eq_true', Bool.not_true, Bool.not_false, and_true, true_and] at hQz); simp only [go_sem, *] <;> rfl)); (case hp => intro hQz; first | exact awake_ok | (have hXz := awake_ok; simp only [go_sem, *] at hXz; exact hXz)))
 | (apply st_g; (case hv => (simp only [go_sem, *] <;> rfl)); all_goals (intro hg; (try simp only [Bool.not_true, Bool.not_false, reduceCtorEq] at hg)))
 | (refine Awp.ret ?_; try simp only [go_sem, *])
 | (refine Awp.skip ?_; try simp only [go_sem, *])
 | (apply Awp.cond; (case hc => (simp only [go_sem, *] <;> rfl)); all_goals (intro hg; (try simp only [Bool.not_true, Bool.not_false, reduceCtorEq] at hg)))
 | refine Awp.seq ?_)
  all_goals repeat' (first | exact Lower.bool (by first | rfl | (simp only [true_and, Bool.true_and, Bool.false_and, Bool.and_true, Bool.and_false, Bool.true_or, Bool.false_or, reduceIte, Bool.false_eq_true, *]; done) | (simp only [true_and, reduceIte, Bool.false_eq_true, *] <;> rfl) | (simp [true_and]; done) | (simp_all [true_and]; done) | omega))
end Go.Proofs
end
section
set_option linter.unusedVariables false
set_option linter.unusedSimpArgs false
namespace Go.Proofs
open Go Go.Ab Go.ChangeShapes Go.WideShapes Go.ChangeAt Go.RowKit
set_option maxRecDepth 100000
section
variable {H : Type} {enc : TypeId × Value → H} {w : World} {spare : Nat → Bool} {held : Bool} {r : Reach} {b0 : Nat} {v : Value} {d : DataW H} {p : List MemPlace}
open YtdgacfkgodbajaaGreatDoor in
theorem bulk_one (d : DataW H) : 1 ≤ Rows.uptoBulk d := by
  cases d with
  | lit x => cases x <;> simp [Rows.uptoBulk]
  | _ => simp [Rows.uptoBulk]
open YtdgacfkgodbajaaGreatDoor in
theorem bulk_len (l : List (DataW H)) : l.length ≤ Rows.uptoBulkAll l := by
  induction l with
  | nil => simp
  | cons x l ih =>
    have := bulk_one x
    simp only [Rows.uptoBulkAll, List.length_cons]
    omega
open YtdgacfkgodbajaaGreatDoor in
theorem bulk_all (l : List (DataW H)) (d : DataW H) (h : d ∈ l) : Rows.uptoBulk d ≤ Rows.uptoBulkAll l := by
  induction l with
  | nil => cases h
  | cons x l ih =>
    simp only [Rows.uptoBulkAll]
    cases List.mem_cons.1 h with
    | inl e => subst e; omega
    | inr e => have := ih e; omega
open YtdgacfkgodbajaaGreatDoor in
theorem bulk_app (l m : List (DataW H)) : Rows.uptoBulkAll l ≤ Rows.uptoBulkAll (l ++ m) := by
  induction l with
  | nil => simp [Rows.uptoBulkAll]
  | cons x l ih => simp only [List.cons_append, Rows.uptoBulkAll]; omega
open YtdgacfkgodbajaaGreatDoor in
theorem sl_bulk {st : Nat → Prop} {t e : TypeId} {es : List (List AV)} (hu : Tryz.prog.underlying t = some (.slice e)) (hp : PureV st w (.sl es) v) (hd : DataW.Trod enc Tryz.prog w 0 spare held t v d p) : es.length ≤ Rows.uptoBulk d := by
  obtain ⟨fuel, h⟩ := hd
  have key : ∀ (a : Option Addr) (cap : Nat), v = .slice a es.length cap → es.length ≤ Rows.uptoBulk d := by
    intro a0 c0 hv
    subst hv
    rcases DataW.trod_slice hu h with ⟨hx, _⟩ | ⟨a, len, cap, elems, rest, m, _, hx, hd, hb, hl, hm, hlen, _⟩
    · have hx' : [Value.slice a0 es.length c0] = [.slice none 0 0] := hx
      injection hx' with h1
      injection h1 with _ h2
      omega
    · have hx' : [Value.slice a0 es.length c0] = [.slice (some a) len cap] := hx
      injection hx' with h1
      injection h1 with _ h2
      obtain ⟨rfl, -⟩ := Prod.mk.inj hd
      have h3 := bulk_len (elems.map (·.1))
      simp only [Rows.uptoBulk]
      rw [List.length_map] at h3
      omega
  cases hp with
  | slE a cap hc => exact key _ _ rfl
  | slC _ g off cap sz f hc hm h0 hne hz hst hcell hr => exact key _ _ rfl
open YtdgacfkgodbajaaGreatDoor in
theorem tes_small {st : Nat → Prop} {l : List Te} {ds gs : List (DataW H)} (hk : Rows.uptoSmall H (ds ++ gs) = true) (hm : d ∈ ds) (hp : PureV st w (.sl (tes l)) v)
    (hd : DataW.Trod enc Tryz.prog w 0 spare held 40 v d p) : l.length < 2000000 := by
  have h1 := sl_bulk Tryz.underlying40 hp hd
  rw [tes_len] at h1
  have h2 := bulk_app ds gs
  have h3 := bulk_all ds d hm
  have h4 : Rows.uptoBulkAll (ds ++ gs) ≤ 1048576 := by simpa [Rows.uptoSmall] using hk
  omega
end
end Go.Proofs
end
section
set_option linter.unusedVariables false
set_option linter.unusedSimpArgs false
namespace Go.Proofs
open Go Go.Ab
set_option maxHeartbeats 8000000
set_option maxRecDepth 100000
attribute [local irreducible] Awp aops aopsL Go.Ab.Pure PureOwn

theorem first_pass {l : List Te} (hR : RightT l) (ho : leftE l ≠ []) : ∃ k, k < (leftE l).length ∧ (passT l ((leftE l).getD k zeroB)).2 = 0 ∧ ∀ j, j < k → ((passT l ((leftE l).getD j zeroB)).2 == 0) = false := by
  obtain ⟨s, hs, hp⟩ := can_pass hR ho
  have hex : ∃ k, k < (leftE l).length ∧ (passT l ((leftE l).getD k zeroB)).2 = 0 := by
    obtain ⟨k, hk, rfl⟩ := List.getElem_of_mem hs
    exact ⟨k, hk, by rw [getD_get _ zeroB k hk]; exact hp⟩
  obtain ⟨k0, hk0, hp0⟩ := hex
  clear hp hs s
  rcases idxF_some (p := fun s => (passT l s).2 == 0) (l := leftE l) zeroB with ⟨_, hn⟩ | ⟨j, hj, _, h2, h3⟩
  · have := hn k0 hk0
    rw [hp0] at this
    cases this
  · exact ⟨j, hj, by simpa using h2, h3⟩
structure EndI (g : List Te) (r : Nat) (l : List Te) : Prop where
  le : r ≤ g.length + 1
  cnt : (leftE l).length = g.length - r
  cln : cleanE l = cleanE g
theorem end_step {g l : List Te} {r : Nat} (h : EndI g r l) (hr : r ≤ g.length) {s : ByteArray} (hp : (passT l s).2 = 0) (hne : leftE l ≠ []) : EndI g (r + 1) (passT l s).1 := by
  rcases pass_cases l s with ⟨_, h8⟩ | ⟨i, hi⟩
  · rw [hp] at h8; omega
  · rw [hi.val]
    dsimp only
    have h1 := left_set_len hi
    have h2 := h.cnt
    exact ⟨by omega, by omega, by rw [clean_set hi.lt]; exact h.cln⟩
def endS (g l m : List Te) (F : List ByteArray) (r k i : Nat) : AState :=
  if i ≤ k then mkS [(0, .sl (tes g)), (3, .sl (tes l)), (4, .v (.int .i64 r)), (5, .sl (strs F)), (6, .v (.bool false)), (7, .v (.int .i64 i))] []
  else mkS [(0, .sl (tes g)), (3, .sl (tes m)), (4, .v (.int .i64 r)), (5, .sl (strs F)), (6, .v (.bool true)), (7, .v (.int .i64 i))] []
theorem endS_lo {g l m : List Te} {F : List ByteArray} {r k i : Nat} (h : i ≤ k) : endS g l m F r k i = mkS [(0, .sl (tes g)), (3, .sl (tes l)), (4, .v (.int .i64 r)), (5, .sl (strs F)), (6, .v (.bool false)), (7, .v (.int .i64 i))] [] := if_pos h
theorem endS_hi {g l m : List Te} {F : List ByteArray} {r k i : Nat} (h : ¬ i ≤ k) : endS g l m F r k i = mkS [(0, .sl (tes g)), (3, .sl (tes m)), (4, .v (.int .i64 r)), (5, .sl (strs F)), (6, .v (.bool true)), (7, .v (.int .i64 i))] [] := if_neg h
theorem ends_ok (g : List Te) (hg0 : g.length < 2000000) : Pure Tryz.prog 8 [.sl (tes g)] (.v (.bool true)) := by
  have c0 := clean_ok g hg0
  have c1 := few_ok (cleanE g)
  cases h1 : fewB (cleanE g)
  · rw [h1] at c1
    refine fn_pure Tryz.F8 (Nat.le_of_ble_eq_true rfl) ?_; unfold Tryz.ac8
    repeat' (first
 | (apply Awp.sreg; (case hn => (simp only [List.length_cons, List.length_nil, Nat.reduceAdd] <;> rfl)))
 | (refine st_nil ?_)
 | (apply st_a; (case hc => rfl); (case he => (simp only [go_sem, *] <;> rfl)); (case hu => (simp only [updL_nil, updL_cons] <;> rfl)); (case hp => first | trivial))
 | (apply st_m; (case hc => rfl); (case hg => (simp only [go_sem, *] <;> rfl)); (case he => (intro hQz; (try simp only [wantB_t, wantB_f, Bool.and_eq_true, Bool.not_eq_true', Bool.not_true, Bool.not_false, and_true, true_and] at hQz); simp only [go_sem, *] <;> rfl)); (case hp => (intro hQz; (try simp only [wantB_t, wantB_f, Bool.and_eq_true, Bool.not_eq_true', Bool.or_eq_false_iff, decide_eq_true_eq, decide_eq_false_iff_not, beq_iff_eq, beq_eq_false_iff_ne, bne_iff_ne, bne_eq_false_iff_eq, Int.not_lt, Int.not_le, Int.ofNat_lt, Int.ofNat_le] at hQz); first | trivial)))
 | (apply st_co; (case hc => (simp only [go_sem, *] <;> rfl)); (case hl => (simp only [go_sem, *] <;> rfl)); (case hn => (simp only [go_sem, *] <;> rfl)); (case hp => first | exact c0 | (have hXz := c0; simp only [go_sem, *] at hXz; exact hXz)))
 | (apply st_cd; (case hc => (simp only [go_sem, *] <;> rfl)); (case hl => (simp only [go_sem, *] <;> rfl)); (case hn => (simp only [go_sem, *] <;> rfl)); (case hp => first | exact c1 | (have hXz := c1; simp only [go_sem, *] at hXz; exact hXz)); (case hd => first | exact .v _ | exact .any | exact .nils | (repeat' (first | exact Dry.v _ | exact Dry.any | exact Dry.nils | exact Dry.slE | refine Dry.agg ?_ | refine Dry.tup ?_ | (refine List.forall_mem_cons.2 (And.intro ?_ ?_)) | (intro cQ hQ; cases hQ; done)))); (case hm => first | decide | (simp; done)))
 | (apply st_c; (case hc => (simp only [go_sem, *] <;> rfl)); (case hl => (simp only [go_sem, *] <;> rfl)); (case hn => (simp only [go_sem, *] <;> rfl)); (case hp => first | exact awake_ok | (have hXz := awake_ok; simp only [go_sem, *] at hXz; exact hXz)))
 | (apply st_g; (case hv => (simp only [go_sem, *] <;> rfl)); all_goals (intro hg; (try simp only [Bool.not_true, Bool.not_false, reduceCtorEq] at hg)))
 | (refine Awp.ret ?_; try simp only [go_sem, *])
 | (apply Awp.cond; (case hc => (simp only [go_sem, *] <;> rfl)); all_goals (intro hg; (try simp only [Bool.not_true, Bool.not_false, reduceCtorEq] at hg)))
 | refine Awp.seq ?_)
    all_goals repeat' (first | exact Lower.bool (by first | rfl | (simp only [true_and, Bool.true_and, Bool.false_and, Bool.and_true, Bool.and_false, Bool.true_or, Bool.false_or, reduceIte, Bool.false_eq_true, *]; done) | (simp only [true_and, reduceIte, Bool.false_eq_true, *] <;> rfl) | (simp [true_and]; done) | (simp_all [true_and]; done) | omega))
  rw [h1] at c1
  obtain ⟨h2, h3⟩ := few_get h1
  have hcl := clean_len g
  rw [hcl] at h2 h3
  have hsz : ∀ i, i < g.length → (g.getD i zeroTe).id.size ≤ 100 ∧ (g.getD i zeroTe).af.length ≤ 30 := fun i hi => by
    have := h3 i hi
    rw [clean_at] at this
    exact this
  have c2 := rcheckT_ok (cleanE g) (by omega) (fun i hi => by rw [clean_at]; have := hsz i (by omega); dsimp only; omega)
  rw [chkT_clean] at c2
  clear h1 h3
  by_cases hC : chkT g ≠ 0
  · have hC' : (chkT g != 0) = true := by simpa using hC
    clear hsz hC hcl
    generalize chkT g = C at *
    generalize cleanE g = G at *
    refine fn_pure Tryz.F8 (Nat.le_of_ble_eq_true rfl) ?_; unfold Tryz.ac8
    repeat' (first
 | (apply Awp.sreg; (case hn => (simp only [List.length_cons, List.length_nil, Nat.reduceAdd] <;> rfl)))
 | (refine st_nil ?_)
 | (apply st_a; (case hc => rfl); (case he => (simp only [go_sem, *] <;> rfl)); (case hu => (simp only [updL_nil, updL_cons] <;> rfl)); (case hp => first | trivial))
 | (apply st_m; (case hc => rfl); (case hg => (simp only [go_sem, *] <;> rfl)); (case he => (intro hQz; (try simp only [wantB_t, wantB_f, Bool.and_eq_true, Bool.not_eq_true', Bool.not_true, Bool.not_false, and_true, true_and] at hQz); simp only [go_sem, *] <;> rfl)); (case hp => (intro hQz; (try simp only [wantB_t, wantB_f, Bool.and_eq_true, Bool.not_eq_true', Bool.or_eq_false_iff, decide_eq_true_eq, decide_eq_false_iff_not, beq_iff_eq, beq_eq_false_iff_ne, bne_iff_ne, bne_eq_false_iff_eq, Int.not_lt, Int.not_le, Int.ofNat_lt, Int.ofNat_le] at hQz); first | trivial)))
 | (apply st_co; (case hc => (simp only [go_sem, *] <;> rfl)); (case hl => (simp only [go_sem, *] <;> rfl)); (case hn => (simp only [go_sem, *] <;> rfl)); (case hp => first | exact c0 | (have hXz := c0; simp only [go_sem, *] at hXz; exact hXz)))
 | (apply st_cd; (case hc => (simp only [go_sem, *] <;> rfl)); (case hl => (simp only [go_sem, *] <;> rfl)); (case hn => (simp only [go_sem, *] <;> rfl)); (case hp => first | exact c1 | (have hXz := c1; simp only [go_sem, *] at hXz; exact hXz)); (case hd => first | exact .v _ | exact .any | exact .nils | (repeat' (first | exact Dry.v _ | exact Dry.any | exact Dry.nils | exact Dry.slE | refine Dry.agg ?_ | refine Dry.tup ?_ | (refine List.forall_mem_cons.2 (And.intro ?_ ?_)) | (intro cQ hQ; cases hQ; done)))); (case hm => first | decide | (simp; done)))
 | (apply st_cd; (case hc => (simp only [go_sem, *] <;> rfl)); (case hl => (simp only [go_sem, *] <;> rfl)); (case hn => (simp only [go_sem, *] <;> rfl)); (case hp => first | exact c2 | (have hXz := c2; simp only [go_sem, *] at hXz; exact hXz)); (case hd => first | exact .v _ | exact .any | exact .nils | (repeat' (first | exact Dry.v _ | exact Dry.any | exact Dry.nils | exact Dry.slE | refine Dry.agg ?_ | refine Dry.tup ?_ | (refine List.forall_mem_cons.2 (And.intro ?_ ?_)) | (intro cQ hQ; cases hQ; done)))); (case hm => first | decide | (simp; done)))
 | (apply st_c; (case hc => (simp only [go_sem, *] <;> rfl)); (case hl => (simp only [go_sem, *] <;> rfl)); (case hn => (simp only [go_sem, *] <;> rfl)); (case hp => first | exact awake_ok | (have hXz := awake_ok; simp only [go_sem, *] at hXz; exact hXz)))
 | (apply st_g; (case hv => (simp only [go_sem, *] <;> rfl)); all_goals (intro hg; (try simp only [Bool.not_true, Bool.not_false, reduceCtorEq] at hg)))
 | (refine Awp.ret ?_; try simp only [go_sem, *])
 | (apply Awp.cond; (case hc => (simp only [go_sem, *] <;> rfl)); all_goals (intro hg; (try simp only [Bool.not_true, Bool.not_false, reduceCtorEq] at hg)))
 | refine Awp.seq ?_)
    all_goals repeat' (first | exact Lower.bool (by first | rfl | (simp only [true_and, Bool.true_and, Bool.false_and, Bool.and_true, Bool.and_false, Bool.true_or, Bool.false_or, reduceIte, Bool.false_eq_true, *]; done) | (simp only [true_and, reduceIte, Bool.false_eq_true, *] <;> rfl) | (simp [true_and]; done) | (simp_all [true_and]; done) | omega))
  have hC0 : chkT g = 0 := Decidable.of_not_not hC
  rw [hC0] at c2
  clear hC
  have hleft : (leftE (cleanE g)).length = g.length := by
    unfold leftE cleanE
    rw [List.length_map, List.filter_eq_self.2 (fun x hx => by obtain ⟨y, _, rfl⟩ := List.mem_map.1 hx; rfl), List.length_map]
  have hI0 : EndI g 0 (cleanE g) := ⟨by omega, by omega, by unfold cleanE; simp⟩
  clear hleft
  refine fn_pure Tryz.F8 (Nat.le_of_ble_eq_true rfl) ?_; unfold Tryz.ac8
  repeat' (first
 | (apply Awp.sreg; (case hn => (simp only [List.length_cons, List.length_nil, Nat.reduceAdd] <;> rfl)))
 | (refine st_nil ?_)
 | (apply st_a; (case hc => rfl); (case he => (simp only [go_sem, *] <;> rfl)); (case hu => (simp only [updL_nil, updL_cons] <;> rfl)); (case hp => first | trivial))
 | (apply st_m; (case hc => rfl); (case hg => (simp only [go_sem, *] <;> rfl)); (case he => (intro hQz; (try simp only [wantB_t, wantB_f, Bool.and_eq_true, Bool.not_eq_true', Bool.not_true, Bool.not_false, and_true, true_and] at hQz); simp only [go_sem, *] <;> rfl)); (case hp => (intro hQz; (try simp only [wantB_t, wantB_f, Bool.and_eq_true, Bool.not_eq_true', Bool.or_eq_false_iff, decide_eq_true_eq, decide_eq_false_iff_not, beq_iff_eq, beq_eq_false_iff_ne, bne_iff_ne, bne_eq_false_iff_eq, Int.not_lt, Int.not_le, Int.ofNat_lt, Int.ofNat_le] at hQz); first | trivial)))
 | (apply st_co; (case hc => (simp only [go_sem, *] <;> rfl)); (case hl => (simp only [go_sem, *] <;> rfl)); (case hn => (simp only [go_sem, *] <;> rfl)); (case hp => first | exact c0 | (have hXz := c0; simp only [go_sem, *] at hXz; exact hXz)))
 | (apply st_cd; (case hc => (simp only [go_sem, *] <;> rfl)); (case hl => (simp only [go_sem, *] <;> rfl)); (case hn => (simp only [go_sem, *] <;> rfl)); (case hp => first | exact c1 | (have hXz := c1; simp only [go_sem, *] at hXz; exact hXz)); (case hd => first | exact .v _ | exact .any | exact .nils | (repeat' (first | exact Dry.v _ | exact Dry.any | exact Dry.nils | exact Dry.slE | refine Dry.agg ?_ | refine Dry.tup ?_ | (refine List.forall_mem_cons.2 (And.intro ?_ ?_)) | (intro cQ hQ; cases hQ; done)))); (case hm => first | decide | (simp; done)))
 | (apply st_cd; (case hc => (simp only [go_sem, *] <;> rfl)); (case hl => (simp only [go_sem, *] <;> rfl)); (case hn => (simp only [go_sem, *] <;> rfl)); (case hp => first | exact c2 | (have hXz := c2; simp only [go_sem, *] at hXz; exact hXz)); (case hd => first | exact .v _ | exact .any | exact .nils | (repeat' (first | exact Dry.v _ | exact Dry.any | exact Dry.nils | exact Dry.slE | refine Dry.agg ?_ | refine Dry.tup ?_ | (refine List.forall_mem_cons.2 (And.intro ?_ ?_)) | (intro cQ hQ; cases hQ; done)))); (case hm => first | decide | (simp; done)))
 | (apply st_g; (case hv => (simp only [go_sem, *] <;> rfl)); all_goals (intro hg; (try simp only [Bool.not_true, Bool.not_false, reduceCtorEq] at hg)))
 | (refine Awp.skip ?_; try simp only [go_sem, *])
 | refine Awp.block ?_
 | (apply Awp.cond; (case hc => (simp only [go_sem, *] <;> rfl)); all_goals (intro hg; (try simp only [Bool.not_true, Bool.not_false, reduceCtorEq] at hg)))
 | refine Awp.seq ?_)
  clear c0 c1 c2
  refine Awp.loop (fun y : Nat × List Te => EndI g y.1 y.2) 60 (fun y => mkS [(0, .sl (tes g)), (3, .sl (tes y.2)), (4, .v (.int .i64 y.1))] []) (fun y => g.length + 1 - y.1) (0, cleanE g) hI0 ?_ ?_
  · clear hsz hI0 hC0
    (apply Ghost.mk [] [2]; (case hdead => rfl); (case hinj => rfl); (case hV => (simp only [go_sem, *]) <;> (repeat' (first | refine And.intro ?_ ?_ | exact View.int (by first | rfl | omega | (simp; done) | (rw [wrap_i64] <;> (try simp only [Int.natCast_add]) <;> omega) | (simp [*]; done)) | exact View.low (Lower.ownE (by first | rfl | (simp only [go_sem, *] <;> rfl)) (by first | rfl | omega | (simp; done) | (rw [wrap_i64] <;> (try simp only [Int.natCast_add]) <;> omega) | (simp [*]; done)))))); (case hB => (simp only [go_sem, *]) <;> (repeat' (first | skip; done))))
  · intro ⟨r, l⟩ hI
    clear hI0
    dsimp only at hI ⊢
    by_cases hr : r ≤ g.length
    · have hr' : (r : Int) ≤ g.length := by omega
      have hll : l.length = g.length := by rw [← clean_len l, hI.cln, hcl]
      have haf : ∀ i, i < l.length → (l.getD i zeroTe).af.length < 100000 := fun i hi => by
        rw [(clean_ids hI.cln i).2]; have := hsz i (by omega); omega
      have c1 := left_ok l (by omega)
      have hcl2 : chkT l = 0 := by rw [← chkT_clean, hI.cln, chkT_clean, hC0]
      have c2 := checkT_ok l (by omega) haf
      rw [hcl2] at c2
      have hcnt := hI.cnt
      have hsl : (strs (leftE l)).length = (leftE l).length := by simp [strs]
      have hsub : ((g.length : Int) - (r : Int)) = ((g.length - r : Nat) : Int) := by omega
      have hneq : (((leftE l).length : Int) != IntKind.i64.wrap ((g.length - r : Nat) : Int)) = false := by rw [wrap_i64 (by omega) (by omega), hcnt]; simp
      by_cases hne : leftE l = []
      · have hrg : g.length - r = 0 := by rw [← hcnt, hne]; rfl
        rw [hne] at c1 hsl
        have hI2 : EndI g (r + 1) l := ⟨by omega, by rw [hne]; show 0 = _; omega, hI.cln⟩
        clear hI haf hsz hC0 hcl hcl2 hcnt hne hneq
        repeat' (first
 | (apply Awp.sreg; (case hn => (simp only [List.length_cons, List.length_nil, Nat.reduceAdd] <;> rfl)))
 | (refine st_nil ?_)
 | (apply st_a; (case hc => rfl); (case he => (simp only [go_sem, *] <;> rfl)); (case hu => (simp only [updL_nil, updL_cons] <;> rfl)); (case hp => first | trivial))
 | (apply st_co; (case hc => (simp only [go_sem, *] <;> rfl)); (case hl => (simp only [go_sem, *] <;> rfl)); (case hn => (simp only [go_sem, *] <;> rfl)); (case hp => first | exact c1 | (have hXz := c1; simp only [go_sem, *] at hXz; exact hXz)))
 | (refine Awp.ret ?_; try simp only [go_sem, *])
 | (refine Awp.skip ?_; try simp only [go_sem, *])
 | refine Awp.block ?_
 | (apply Awp.cond; (case hc => (simp only [go_sem, *] <;> rfl)); all_goals (intro hg; (try simp only [Bool.not_true, Bool.not_false, reduceCtorEq] at hg)))
 | refine Awp.seq ?_)
        all_goals (try (exfalso; exact absurd hg (by decide)))
        refine Awp.loop (fun _ : Unit => True) 120 (fun _ => mkS [(0, .sl (tes g)), (3, .sl (tes l)), (4, .v (.int .i64 r)), (5, .sl (strs [])), (6, .v (.bool true)), (7, .v (.int .i64 0))] []) (fun _ => 0) () trivial ?_ ?_
        · clear c1 c2
          (apply Ghost.mk [] [65]; (case hdead => rfl); (case hinj => rfl); (case hV => (simp only [go_sem, *]) <;> (repeat' (first | refine And.intro ?_ ?_ | exact View.bool (by first | rfl | omega | (simp; done) | (rw [wrap_i64] <;> (try simp only [Int.natCast_add]) <;> omega) | (simp [*]; done)) | exact View.low (Lower.ownE (by first | rfl | (simp only [go_sem, *] <;> rfl)) (by first | rfl | omega | (simp; done) | (rw [wrap_i64] <;> (try simp only [Int.natCast_add]) <;> omega) | (simp [*]; done)))))); (case hB => (simp only [go_sem, *]) <;> (repeat' (first | skip; done))))
        · intro _ _
          repeat' (first
 | (apply Awp.sreg; (case hn => (simp only [List.length_cons, List.length_nil, Nat.reduceAdd] <;> rfl)))
 | (refine st_nil ?_)
 | (apply st_a; (case hc => rfl); (case he => (simp only [go_sem, *] <;> rfl)); (case hu => (simp only [updL_nil, updL_cons] <;> rfl)); (case hp => first | trivial))
 | (apply st_m; (case hc => rfl); (case hg => (simp only [go_sem, *] <;> rfl)); (case he => (intro hQz; (try simp only [wantB_t, wantB_f, Bool.and_eq_true, Bool.not_eq_true', Bool.not_true, Bool.not_false, and_true, true_and] at hQz); simp only [go_sem, *] <;> rfl)); (case hp => (intro hQz; (try simp only [wantB_t, wantB_f, Bool.and_eq_true, Bool.not_eq_true', Bool.or_eq_false_iff, decide_eq_true_eq, decide_eq_false_iff_not, beq_iff_eq, beq_eq_false_iff_ne, bne_iff_ne, bne_eq_false_iff_eq, Int.not_lt, Int.not_le, Int.ofNat_lt, Int.ofNat_le] at hQz); first | trivial)))
 | (apply st_mc; (case hop => rfl); (case hg => (simp only [go_sem, *] <;> rfl)); (case hc => (intro hQz; (try simp only [wantB_t, wantB_f, Bool.and_eq_true, Bool.not_eq_true', Bool.not_true, Bool.not_false, and_true, true_and] at hQz); simp only [go_sem, *] <;> rfl)); (case hl => (intro hQz; (try simp only [wantB_t, wantB_f, Bool.and_eq_true, Bool.not_eq_true', Bool.not_true, Bool.not_false, and_true, true_and] at hQz); simp only [go_sem, *] <;> rfl)); (case hn => (intro hQz; (try simp only [wantB_t, wantB_f, Bool.and_eq_true, Bool.not_eq_true', Bool.not_true, Bool.not_false, and_true, true_and] at hQz); simp only [go_sem, *] <;> rfl)); (case hp => intro hQz; first | exact c2 | (have hXz := c2; simp only [go_sem, *] at hXz; exact hXz)))
 | (apply Awp.reg; (case hn => (simp only [List.length_cons, List.length_nil, Nat.reduceAdd] <;> rfl)))
 | (refine Awp.skip ?_; try simp only [go_sem, *])
 | (refine Awp.exit ?_; try simp only [go_sem, *])
 | (apply Awp.cond; (case hc => (simp only [go_sem, *] <;> rfl)); all_goals (intro hg; (try simp only [Bool.not_true, Bool.not_false, reduceCtorEq] at hg)))
 | refine Awp.seq ?_)
          all_goals (refine ⟨(r + 1, l), hI2, by dsimp only; omega, ?_⟩; dsimp only; clear hI2 c2 c1; (apply Ghost.mk [] []; (case hdead => rfl); (case hinj => rfl); (case hV => (simp only [go_sem, *]) <;> (repeat' (first | exact View.int (by first | rfl | omega | (simp; done) | (rw [wrap_i64] <;> (try simp only [Int.natCast_add]) <;> omega) | (simp [*]; done))))); (case hB => (simp only [go_sem, *]) <;> (repeat' (first | skip; done)))))
      · have hR := right_of hcl2
        obtain ⟨k, hk, hpk, hbef⟩ := first_pass hR hne
        have hpass := fun s => pass_ok l s (by omega) haf
        have hyes : ∀ j, j < k → (passT l ((leftE l).getD j zeroB)).1 = [] := fun j hj => by
          rcases pass_cases l ((leftE l).getD j zeroB) with ⟨h, _⟩ | ⟨i, h⟩
          · exact h
          · have := hbef j hj
            rw [h.val] at this
            cases this
        have hI2 := end_step hI hr hpk hne
        have hpass0 := hpass ((leftE l).getD k zeroB)
        rw [hpk] at hpass0
        obtain ⟨m, hm⟩ : ∃ m, (passT l ((leftE l).getD k zeroB)).1 = m := ⟨_, rfl⟩
        rw [hm] at hI2 hpass0
        have hml : m.length = g.length := by rw [← clean_len m, hI2.cln, hcl]
        have hafm : ∀ i, i < m.length → (m.getD i zeroTe).af.length < 100000 := fun i hi => by
          rw [(clean_ids hI2.cln i).2]; have := hsz i (by omega); omega
        have c3 := checkT_ok m (by omega) hafm
        have hcm : chkT m = 0 := by rw [← chkT_clean, hI2.cln, chkT_clean, hC0]
        rw [hcm] at c3
        have hF0 : ((leftE l).length : Int) ≠ 0 := by
          intro h
          exact hne (List.length_eq_zero_iff.1 (by omega))
        have hF0' : (((leftE l).length : Int) == 0) = false := by simpa using hF0
        have hFg : (leftE l).length = g.length - r := hcnt
        have hFl : (leftE l).length ≤ g.length := by omega
        clear hI haf hsz hC0 hcl hcl2 hafm hcm hR hne hm hpk hml c2 hcnt hFg
        generalize leftE l = F at *
        repeat' (first
 | (apply Awp.sreg; (case hn => (simp only [List.length_cons, List.length_nil, Nat.reduceAdd] <;> rfl)))
 | (refine st_nil ?_)
 | (apply st_a; (case hc => rfl); (case he => (simp only [go_sem, *] <;> rfl)); (case hu => (simp only [updL_nil, updL_cons] <;> rfl)); (case hp => first | trivial))
 | (apply st_co; (case hc => (simp only [go_sem, *] <;> rfl)); (case hl => (simp only [go_sem, *] <;> rfl)); (case hn => (simp only [go_sem, *] <;> rfl)); (case hp => first | exact c1 | (have hXz := c1; simp only [go_sem, *] at hXz; exact hXz)))
 | (refine Awp.skip ?_; try simp only [go_sem, *])
 | refine Awp.block ?_
 | (apply Awp.cond; (case hc => (simp only [go_sem, *] <;> rfl)); all_goals (intro hg; (try simp only [Bool.not_true, Bool.not_false, reduceCtorEq] at hg)))
 | refine Awp.seq ?_)
        refine Awp.loop (fun i : Nat => i ≤ k + 1) 120 (fun i => endS g l m F r k i) (fun i => k + 1 - i) 0 (by omega) ?_ ?_
        · rw [endS_lo (Nat.zero_le _)]
          clear c1 c3 hbef hyes hpass hpass0 hI2
          (apply Ghost.mk [] [65]; (case hdead => rfl); (case hinj => rfl); (case hV => (simp only [go_sem, *]) <;> (repeat' (first | refine And.intro ?_ ?_ | exact View.int (by first | rfl | omega | (simp; done) | (rw [wrap_i64] <;> (try simp only [Int.natCast_add]) <;> omega) | (simp [*]; done)) | exact View.low (Lower.ownE (by first | rfl | (simp only [go_sem, *] <;> rfl)) (by first | rfl | omega | (simp; done) | (rw [wrap_i64] <;> (try simp only [Int.natCast_add]) <;> omega) | (simp [*]; done)))))); (case hB => (simp only [go_sem, *]) <;> (repeat' (first | skip; done))))
        · intro i hi
          by_cases hik : i ≤ k
          · rw [endS_lo hik]
            have hiF : i < F.length := by omega
            have hiF' : (i : Int) < F.length := by omega
            have hat := strs_at0 F i hiF
            by_cases hlt : i < k
            · have h1 := hbef i hlt
              have h2 := hyes i hlt
              have c4 := hpass (F.getD i zeroB)
              rw [h2] at c4
              clear hbef hyes hpass hpass0 h2 c1 c3
              generalize F.getD i zeroB = u at *
              generalize (passT l u).2 = E at *
              repeat' (first
 | (apply Awp.sreg; (case hn => (simp only [List.length_cons, List.length_nil, Nat.reduceAdd] <;> rfl)))
 | (refine st_nil ?_)
 | (apply st_a; (case hc => rfl); (case he => (simp only [go_sem, *] <;> rfl)); (case hu => (simp only [updL_nil, updL_cons] <;> rfl)); (case hp => first | trivial | omega))
 | (apply st_m; (case hc => rfl); (case hg => (simp only [go_sem, *] <;> rfl)); (case he => (intro hQz; (try simp only [wantB_t, wantB_f, Bool.and_eq_true, Bool.not_eq_true', Bool.not_true, Bool.not_false, and_true, true_and] at hQz); simp only [go_sem, *] <;> rfl)); (case hp => (intro hQz; (try simp only [wantB_t, wantB_f, Bool.and_eq_true, Bool.not_eq_true', Bool.or_eq_false_iff, decide_eq_true_eq, decide_eq_false_iff_not, beq_iff_eq, beq_eq_false_iff_ne, bne_iff_ne, bne_eq_false_iff_eq, Int.not_lt, Int.not_le, Int.ofNat_lt, Int.ofNat_le] at hQz); first | trivial)))
 | (apply st_c; (case hc => (simp only [go_sem, *] <;> rfl)); (case hl => (simp only [go_sem, *] <;> rfl)); (case hn => (simp only [go_sem, *] <;> rfl)); (case hp => first | exact c4 | (have hXz := c4; simp only [go_sem, *] at hXz; exact hXz)))
 | (apply Awp.reg; (case hn => (simp only [List.length_cons, List.length_nil, Nat.reduceAdd] <;> rfl)))
 | (refine Awp.skip ?_; try simp only [go_sem, *])
 | refine Awp.block ?_
 | (apply Awp.cond; (case hc => (simp only [go_sem, *] <;> rfl)); all_goals (intro hg; (try simp only [Bool.not_true, Bool.not_false, reduceCtorEq] at hg)))
 | refine Awp.seq ?_)
              all_goals (refine ⟨i + 1, by omega, by omega, ?_⟩; rw [endS_lo hlt]; clear hI2 c4; (apply Ghost.mk [] []; (case hdead => rfl); (case hinj => rfl); (case hV => (simp only [go_sem, *]) <;> (repeat' (first | exact View.int (by first | rfl | omega | (simp; done) | (rw [wrap_i64] <;> (try simp only [Int.natCast_add]) <;> omega) | (simp [*]; done))))); (case hB => (simp only [go_sem, *]) <;> (repeat' (first | skip; done)))))
            · have hek : i = k := by omega
              subst hek
              clear hbef hyes hpass c1 c3
              generalize F.getD i zeroB = u at *
              repeat' (first
 | (apply Awp.sreg; (case hn => (simp only [List.length_cons, List.length_nil, Nat.reduceAdd] <;> rfl)))
 | (refine st_nil ?_)
 | (apply st_a; (case hc => rfl); (case he => (simp only [go_sem, *] <;> rfl)); (case hu => (simp only [updL_nil, updL_cons] <;> rfl)); (case hp => first | trivial | omega))
 | (apply st_m; (case hc => rfl); (case hg => (simp only [go_sem, *] <;> rfl)); (case he => (intro hQz; (try simp only [wantB_t, wantB_f, Bool.and_eq_true, Bool.not_eq_true', Bool.not_true, Bool.not_false, and_true, true_and] at hQz); simp only [go_sem, *] <;> rfl)); (case hp => (intro hQz; (try simp only [wantB_t, wantB_f, Bool.and_eq_true, Bool.not_eq_true', Bool.or_eq_false_iff, decide_eq_true_eq, decide_eq_false_iff_not, beq_iff_eq, beq_eq_false_iff_ne, bne_iff_ne, bne_eq_false_iff_eq, Int.not_lt, Int.not_le, Int.ofNat_lt, Int.ofNat_le] at hQz); first | trivial)))
 | (apply st_c; (case hc => (simp only [go_sem, *] <;> rfl)); (case hl => (simp only [go_sem, *] <;> rfl)); (case hn => (simp only [go_sem, *] <;> rfl)); (case hp => first | exact hpass0 | (have hXz := hpass0; simp only [go_sem, *] at hXz; exact hXz)))
 | (apply Awp.reg; (case hn => (simp only [List.length_cons, List.length_nil, Nat.reduceAdd] <;> rfl)))
 | (refine Awp.skip ?_; try simp only [go_sem, *])
 | refine Awp.block ?_
 | (apply Awp.cond; (case hc => (simp only [go_sem, *] <;> rfl)); all_goals (intro hg; (try simp only [Bool.not_true, Bool.not_false, reduceCtorEq] at hg)))
 | refine Awp.seq ?_)
              all_goals (refine ⟨i + 1, by omega, by omega, ?_⟩; rw [endS_hi (by omega)]; clear hI2 hpass0; (apply Ghost.mk [] []; (case hdead => rfl); (case hinj => rfl); (case hV => (simp only [go_sem, *]) <;> (repeat' (first | exact View.int (by first | rfl | omega | (simp; done) | (rw [wrap_i64] <;> (try simp only [Int.natCast_add]) <;> omega) | (simp [*]; done))))); (case hB => (simp only [go_sem, *]) <;> (repeat' (first | skip; done)))))
          · rw [endS_hi hik]
            clear hbef hyes hpass hpass0 c1
            repeat' (first
 | (apply Awp.sreg; (case hn => (simp only [List.length_cons, List.length_nil, Nat.reduceAdd] <;> rfl)))
 | (refine st_nil ?_)
 | (apply st_a; (case hc => rfl); (case he => (simp only [go_sem, *] <;> rfl)); (case hu => (simp only [updL_nil, updL_cons] <;> rfl)); (case hp => first | trivial))
 | (apply st_m; (case hc => rfl); (case hg => (simp only [go_sem, *] <;> rfl)); (case he => (intro hQz; (try simp only [wantB_t, wantB_f, Bool.and_eq_true, Bool.not_eq_true', Bool.not_true, Bool.not_false, and_true, true_and] at hQz); simp only [go_sem, *] <;> rfl)); (case hp => (intro hQz; (try simp only [wantB_t, wantB_f, Bool.and_eq_true, Bool.not_eq_true', Bool.or_eq_false_iff, decide_eq_true_eq, decide_eq_false_iff_not, beq_iff_eq, beq_eq_false_iff_ne, bne_iff_ne, bne_eq_false_iff_eq, Int.not_lt, Int.not_le, Int.ofNat_lt, Int.ofNat_le] at hQz); first | trivial)))
 | (apply st_mc; (case hop => rfl); (case hg => (simp only [go_sem, *] <;> rfl)); (case hc => (intro hQz; (try simp only [wantB_t, wantB_f, Bool.and_eq_true, Bool.not_eq_true', Bool.not_true, Bool.not_false, and_true, true_and] at hQz); simp only [go_sem, *] <;> rfl)); (case hl => (intro hQz; (try simp only [wantB_t, wantB_f, Bool.and_eq_true, Bool.not_eq_true', Bool.not_true, Bool.not_false, and_true, true_and] at hQz); simp only [go_sem, *] <;> rfl)); (case hn => (intro hQz; (try simp only [wantB_t, wantB_f, Bool.and_eq_true, Bool.not_eq_true', Bool.not_true, Bool.not_false, and_true, true_and] at hQz); simp only [go_sem, *] <;> rfl)); (case hp => intro hQz; first | exact c3 | (have hXz := c3; simp only [go_sem, *] at hXz; exact hXz)))
 | (apply Awp.reg; (case hn => (simp only [List.length_cons, List.length_nil, Nat.reduceAdd] <;> rfl)))
 | (refine Awp.skip ?_; try simp only [go_sem, *])
 | (refine Awp.exit ?_; try simp only [go_sem, *])
 | (apply Awp.cond; (case hc => (simp only [go_sem, *] <;> rfl)); all_goals (intro hg; (try simp only [Bool.not_true, Bool.not_false, reduceCtorEq] at hg)))
 | refine Awp.seq ?_)
            all_goals (refine ⟨(r + 1, m), hI2, by dsimp only; omega, ?_⟩; dsimp only; clear hI2 c3; (apply Ghost.mk [] []; (case hdead => rfl); (case hinj => rfl); (case hV => (simp only [go_sem, *]) <;> (repeat' (first | exact View.int (by first | rfl | omega | (simp; done) | (rw [wrap_i64] <;> (try simp only [Int.natCast_add]) <;> omega) | (simp [*]; done))))); (case hB => (simp only [go_sem, *]) <;> (repeat' (first | skip; done)))))
    · have hr' : ¬ (r : Int) ≤ g.length := by omega
      clear hI hsz hC0
      repeat' (first
 | (apply Awp.sreg; (case hn => (simp only [List.length_cons, List.length_nil, Nat.reduceAdd] <;> rfl)))
 | (refine st_nil ?_)
 | (apply st_a; (case hc => rfl); (case he => (simp only [go_sem, *] <;> rfl)); (case hu => (simp only [updL_nil, updL_cons] <;> rfl)); (case hp => first | trivial))
 | (apply st_c; (case hc => (simp only [go_sem, *] <;> rfl)); (case hl => (simp only [go_sem, *] <;> rfl)); (case hn => (simp only [go_sem, *] <;> rfl)); (case hp => first | exact awake_ok | (have hXz := awake_ok; simp only [go_sem, *] at hXz; exact hXz)))
 | (refine Awp.ret ?_; try simp only [go_sem, *])
 | (refine Awp.exit ?_; try simp only [go_sem, *])
 | (apply Awp.cond; (case hc => (simp only [go_sem, *] <;> rfl)); all_goals (intro hg; (try simp only [Bool.not_true, Bool.not_false, reduceCtorEq] at hg)))
 | refine Awp.seq ?_)
      all_goals repeat' (first | exact Lower.bool (by first | rfl | (simp only [true_and, Bool.true_and, Bool.false_and, Bool.and_true, Bool.and_false, Bool.true_or, Bool.false_or, reduceIte, Bool.false_eq_true, *]; done) | (simp only [true_and, reduceIte, Bool.false_eq_true, *] <;> rfl) | (simp [true_and]; done) | (simp_all [true_and]; done) | omega))
end Go.Proofs
end
section
set_option linter.unusedVariables false
set_option linter.unusedSimpArgs false
namespace Go.Proofs
open Go Go.Ab
set_option maxHeartbeats 8000000
set_option maxRecDepth 100000
attribute [local irreducible] Awp aops aopsL Go.Ab.Pure PureOwn

structure OrdI (g l : List Te) : Prop where
  cln : cleanE l = cleanE g
  ord : OrdT l
def wantE (F : List ByteArray) (u : ByteArray) : List ByteArray := F.filter (fun x => !(x.toList == u.toList))
theorem want_step (F : List ByteArray) (u : ByteArray) (k : Nat) (h : k < F.length) : wantE (F.take (k + 1)) u = wantE (F.take k) u ++ (if ((F.getD k zeroB).toList == u.toList) = true then [] else [F.getD k zeroB]) := by
  rw [take_snoc F zeroB k h]
  unfold wantE
  rw [List.filter_append]
  congr 1
  rw [List.filter_cons]
  cases ((F.getD k zeroB).toList == u.toList) <;> rfl
theorem want_len (F : List ByteArray) (u : ByteArray) : (wantE F u).length ≤ F.length := List.length_filter_le _ _
theorem order_ok (g : List Te) (W : List ByteArray) (hg0 : g.length < 2000000) : Pure Tryz.prog 9 [.sl (tes g), .sl (strs W)] (.v (.bool true)) := by
  have c0 := clean_ok g hg0
  have c1 := few_ok (cleanE g)
  have hWl : (strs W).length = W.length := by simp [strs]
  cases h1 : fewB (cleanE g)
  · rw [h1] at c1
    clear hWl
    refine fn_pure Tryz.F9 (Nat.le_of_ble_eq_true rfl) ?_; unfold Tryz.ac9
    repeat' (first
 | (apply Awp.sreg; (case hn => (simp only [List.length_cons, List.length_nil, Nat.reduceAdd] <;> rfl)))
 | (refine st_nil ?_)
 | (apply st_a; (case hc => rfl); (case he => (simp only [go_sem, *] <;> rfl)); (case hu => (simp only [updL_nil, updL_cons] <;> rfl)); (case hp => first | trivial))
 | (apply st_m; (case hc => rfl); (case hg => (simp only [go_sem, *] <;> rfl)); (case he => (intro hQz; (try simp only [wantB_t, wantB_f, Bool.and_eq_true, Bool.not_eq_true', Bool.not_true, Bool.not_false, and_true, true_and] at hQz); simp only [go_sem, *] <;> rfl)); (case hp => (intro hQz; (try simp only [wantB_t, wantB_f, Bool.and_eq_true, Bool.not_eq_true', Bool.or_eq_false_iff, decide_eq_true_eq, decide_eq_false_iff_not, beq_iff_eq, beq_eq_false_iff_ne, bne_iff_ne, bne_eq_false_iff_eq, Int.not_lt, Int.not_le, Int.ofNat_lt, Int.ofNat_le] at hQz); first | trivial)))
 | (apply st_co; (case hc => (simp only [go_sem, *] <;> rfl)); (case hl => (simp only [go_sem, *] <;> rfl)); (case hn => (simp only [go_sem, *] <;> rfl)); (case hp => first | exact c0 | (have hXz := c0; simp only [go_sem, *] at hXz; exact hXz)))
 | (apply st_cd; (case hc => (simp only [go_sem, *] <;> rfl)); (case hl => (simp only [go_sem, *] <;> rfl)); (case hn => (simp only [go_sem, *] <;> rfl)); (case hp => first | exact c1 | (have hXz := c1; simp only [go_sem, *] at hXz; exact hXz)); (case hd => first | exact .v _ | exact .any | exact .nils | (repeat' (first | exact Dry.v _ | exact Dry.any | exact Dry.nils | exact Dry.slE | refine Dry.agg ?_ | refine Dry.tup ?_ | (refine List.forall_mem_cons.2 (And.intro ?_ ?_)) | (intro cQ hQ; cases hQ; done)))); (case hm => first | decide | (simp; done)))
 | (apply st_c; (case hc => (simp only [go_sem, *] <;> rfl)); (case hl => (simp only [go_sem, *] <;> rfl)); (case hn => (simp only [go_sem, *] <;> rfl)); (case hp => first | exact awake_ok | (have hXz := awake_ok; simp only [go_sem, *] at hXz; exact hXz)))
 | (apply st_g; (case hv => (simp only [go_sem, *] <;> rfl)); all_goals (intro hg; (try simp only [Bool.not_true, Bool.not_false, reduceCtorEq] at hg)))
 | (refine Awp.ret ?_; try simp only [go_sem, *])
 | (apply Awp.cond; (case hc => (simp only [go_sem, *] <;> rfl)); all_goals (intro hg; (try simp only [Bool.not_true, Bool.not_false, reduceCtorEq] at hg)))
 | refine Awp.seq ?_)
    all_goals repeat' (first | exact Lower.bool (by first | rfl | (simp only [true_and, Bool.true_and, Bool.false_and, Bool.and_true, Bool.and_false, Bool.true_or, Bool.false_or, reduceIte, Bool.false_eq_true, *]; done) | (simp only [true_and, reduceIte, Bool.false_eq_true, *] <;> rfl) | (simp [true_and]; done) | (simp_all [true_and]; done) | omega))
  rw [h1] at c1
  obtain ⟨h2, h3⟩ := few_get h1
  have hcl := clean_len g
  rw [hcl] at h2 h3
  have hsz : ∀ i, i < g.length → (g.getD i zeroTe).id.size ≤ 100 ∧ (g.getD i zeroTe).af.length ≤ 30 := fun i hi => by
    have := h3 i hi
    rw [clean_at] at this
    exact this
  have c2 := rcheckT_ok (cleanE g) (by omega) (fun i hi => by rw [clean_at]; have := hsz i (by omega); dsimp only; omega)
  rw [chkT_clean] at c2
  clear h1 h3
  by_cases hC : chkT g ≠ 0
  · have hC' : (chkT g != 0) = true := by simpa using hC
    clear hsz hC hcl hWl
    generalize chkT g = C at *
    generalize cleanE g = G at *
    refine fn_pure Tryz.F9 (Nat.le_of_ble_eq_true rfl) ?_; unfold Tryz.ac9
    repeat' (first
 | (apply Awp.sreg; (case hn => (simp only [List.length_cons, List.length_nil, Nat.reduceAdd] <;> rfl)))
 | (refine st_nil ?_)
 | (apply st_a; (case hc => rfl); (case he => (simp only [go_sem, *] <;> rfl)); (case hu => (simp only [updL_nil, updL_cons] <;> rfl)); (case hp => first | trivial))
 | (apply st_m; (case hc => rfl); (case hg => (simp only [go_sem, *] <;> rfl)); (case he => (intro hQz; (try simp only [wantB_t, wantB_f, Bool.and_eq_true, Bool.not_eq_true', Bool.not_true, Bool.not_false, and_true, true_and] at hQz); simp only [go_sem, *] <;> rfl)); (case hp => (intro hQz; (try simp only [wantB_t, wantB_f, Bool.and_eq_true, Bool.not_eq_true', Bool.or_eq_false_iff, decide_eq_true_eq, decide_eq_false_iff_not, beq_iff_eq, beq_eq_false_iff_ne, bne_iff_ne, bne_eq_false_iff_eq, Int.not_lt, Int.not_le, Int.ofNat_lt, Int.ofNat_le] at hQz); first | trivial)))
 | (apply st_co; (case hc => (simp only [go_sem, *] <;> rfl)); (case hl => (simp only [go_sem, *] <;> rfl)); (case hn => (simp only [go_sem, *] <;> rfl)); (case hp => first | exact c0 | (have hXz := c0; simp only [go_sem, *] at hXz; exact hXz)))
 | (apply st_cd; (case hc => (simp only [go_sem, *] <;> rfl)); (case hl => (simp only [go_sem, *] <;> rfl)); (case hn => (simp only [go_sem, *] <;> rfl)); (case hp => first | exact c1 | (have hXz := c1; simp only [go_sem, *] at hXz; exact hXz)); (case hd => first | exact .v _ | exact .any | exact .nils | (repeat' (first | exact Dry.v _ | exact Dry.any | exact Dry.nils | exact Dry.slE | refine Dry.agg ?_ | refine Dry.tup ?_ | (refine List.forall_mem_cons.2 (And.intro ?_ ?_)) | (intro cQ hQ; cases hQ; done)))); (case hm => first | decide | (simp; done)))
 | (apply st_cd; (case hc => (simp only [go_sem, *] <;> rfl)); (case hl => (simp only [go_sem, *] <;> rfl)); (case hn => (simp only [go_sem, *] <;> rfl)); (case hp => first | exact c2 | (have hXz := c2; simp only [go_sem, *] at hXz; exact hXz)); (case hd => first | exact .v _ | exact .any | exact .nils | (repeat' (first | exact Dry.v _ | exact Dry.any | exact Dry.nils | exact Dry.slE | refine Dry.agg ?_ | refine Dry.tup ?_ | (refine List.forall_mem_cons.2 (And.intro ?_ ?_)) | (intro cQ hQ; cases hQ; done)))); (case hm => first | decide | (simp; done)))
 | (apply st_c; (case hc => (simp only [go_sem, *] <;> rfl)); (case hl => (simp only [go_sem, *] <;> rfl)); (case hn => (simp only [go_sem, *] <;> rfl)); (case hp => first | exact awake_ok | (have hXz := awake_ok; simp only [go_sem, *] at hXz; exact hXz)))
 | (apply st_g; (case hv => (simp only [go_sem, *] <;> rfl)); all_goals (intro hg; (try simp only [Bool.not_true, Bool.not_false, reduceCtorEq] at hg)))
 | (refine Awp.ret ?_; try simp only [go_sem, *])
 | (apply Awp.cond; (case hc => (simp only [go_sem, *] <;> rfl)); all_goals (intro hg; (try simp only [Bool.not_true, Bool.not_false, reduceCtorEq] at hg)))
 | refine Awp.seq ?_)
    all_goals repeat' (first | exact Lower.bool (by first | rfl | (simp only [true_and, Bool.true_and, Bool.false_and, Bool.and_true, Bool.and_false, Bool.true_or, Bool.false_or, reduceIte, Bool.false_eq_true, *]; done) | (simp only [true_and, reduceIte, Bool.false_eq_true, *] <;> rfl) | (simp [true_and]; done) | (simp_all [true_and]; done) | omega))
  have hC0 : chkT g = 0 := Decidable.of_not_not hC
  rw [hC0] at c2
  clear hC
  by_cases hW : (100 : Int) < W.length
  · clear hsz hC0 hcl
    generalize cleanE g = G at *
    refine fn_pure Tryz.F9 (Nat.le_of_ble_eq_true rfl) ?_; unfold Tryz.ac9
    repeat' (first
 | (apply Awp.sreg; (case hn => (simp only [List.length_cons, List.length_nil, Nat.reduceAdd] <;> rfl)))
 | (refine st_nil ?_)
 | (apply st_a; (case hc => rfl); (case he => (simp only [go_sem, *] <;> rfl)); (case hu => (simp only [updL_nil, updL_cons] <;> rfl)); (case hp => first | trivial))
 | (apply st_m; (case hc => rfl); (case hg => (simp only [go_sem, *] <;> rfl)); (case he => (intro hQz; (try simp only [wantB_t, wantB_f, Bool.and_eq_true, Bool.not_eq_true', Bool.not_true, Bool.not_false, and_true, true_and] at hQz); simp only [go_sem, *] <;> rfl)); (case hp => (intro hQz; (try simp only [wantB_t, wantB_f, Bool.and_eq_true, Bool.not_eq_true', Bool.or_eq_false_iff, decide_eq_true_eq, decide_eq_false_iff_not, beq_iff_eq, beq_eq_false_iff_ne, bne_iff_ne, bne_eq_false_iff_eq, Int.not_lt, Int.not_le, Int.ofNat_lt, Int.ofNat_le] at hQz); first | trivial)))
 | (apply st_co; (case hc => (simp only [go_sem, *] <;> rfl)); (case hl => (simp only [go_sem, *] <;> rfl)); (case hn => (simp only [go_sem, *] <;> rfl)); (case hp => first | exact c0 | (have hXz := c0; simp only [go_sem, *] at hXz; exact hXz)))
 | (apply st_cd; (case hc => (simp only [go_sem, *] <;> rfl)); (case hl => (simp only [go_sem, *] <;> rfl)); (case hn => (simp only [go_sem, *] <;> rfl)); (case hp => first | exact c1 | (have hXz := c1; simp only [go_sem, *] at hXz; exact hXz)); (case hd => first | exact .v _ | exact .any | exact .nils | (repeat' (first | exact Dry.v _ | exact Dry.any | exact Dry.nils | exact Dry.slE | refine Dry.agg ?_ | refine Dry.tup ?_ | (refine List.forall_mem_cons.2 (And.intro ?_ ?_)) | (intro cQ hQ; cases hQ; done)))); (case hm => first | decide | (simp; done)))
 | (apply st_cd; (case hc => (simp only [go_sem, *] <;> rfl)); (case hl => (simp only [go_sem, *] <;> rfl)); (case hn => (simp only [go_sem, *] <;> rfl)); (case hp => first | exact c2 | (have hXz := c2; simp only [go_sem, *] at hXz; exact hXz)); (case hd => first | exact .v _ | exact .any | exact .nils | (repeat' (first | exact Dry.v _ | exact Dry.any | exact Dry.nils | exact Dry.slE | refine Dry.agg ?_ | refine Dry.tup ?_ | (refine List.forall_mem_cons.2 (And.intro ?_ ?_)) | (intro cQ hQ; cases hQ; done)))); (case hm => first | decide | (simp; done)))
 | (apply st_c; (case hc => (simp only [go_sem, *] <;> rfl)); (case hl => (simp only [go_sem, *] <;> rfl)); (case hn => (simp only [go_sem, *] <;> rfl)); (case hp => first | exact awake_ok | (have hXz := awake_ok; simp only [go_sem, *] at hXz; exact hXz)))
 | (apply st_g; (case hv => (simp only [go_sem, *] <;> rfl)); all_goals (intro hg; (try simp only [Bool.not_true, Bool.not_false, reduceCtorEq] at hg)))
 | (refine Awp.ret ?_; try simp only [go_sem, *])
 | (apply Awp.cond; (case hc => (simp only [go_sem, *] <;> rfl)); all_goals (intro hg; (try simp only [Bool.not_true, Bool.not_false, reduceCtorEq] at hg)))
 | refine Awp.seq ?_)
    all_goals repeat' (first | exact Lower.bool (by first | rfl | (simp only [true_and, Bool.true_and, Bool.false_and, Bool.and_true, Bool.and_false, Bool.true_or, Bool.false_or, reduceIte, Bool.false_eq_true, *]; done) | (simp only [true_and, reduceIte, Bool.false_eq_true, *] <;> rfl) | (simp [true_and]; done) | (simp_all [true_and]; done) | omega))
  have hI0 : OrdI g (cleanE g) := ⟨by unfold cleanE; simp, ord_clean g⟩
  have hWs : W.length ≤ 100 := by omega
  refine fn_pure Tryz.F9 (Nat.le_of_ble_eq_true rfl) ?_; unfold Tryz.ac9
  repeat' (first
 | (apply Awp.sreg; (case hn => (simp only [List.length_cons, List.length_nil, Nat.reduceAdd] <;> rfl)))
 | (refine st_nil ?_)
 | (apply st_a; (case hc => rfl); (case he => (simp only [go_sem, *] <;> rfl)); (case hu => (simp only [updL_nil, updL_cons] <;> rfl)); (case hp => first | trivial))
 | (apply st_m; (case hc => rfl); (case hg => (simp only [go_sem, *] <;> rfl)); (case he => (intro hQz; (try simp only [wantB_t, wantB_f, Bool.and_eq_true, Bool.not_eq_true', Bool.not_true, Bool.not_false, and_true, true_and] at hQz); simp only [go_sem, *] <;> rfl)); (case hp => (intro hQz; (try simp only [wantB_t, wantB_f, Bool.and_eq_true, Bool.not_eq_true', Bool.or_eq_false_iff, decide_eq_true_eq, decide_eq_false_iff_not, beq_iff_eq, beq_eq_false_iff_ne, bne_iff_ne, bne_eq_false_iff_eq, Int.not_lt, Int.not_le, Int.ofNat_lt, Int.ofNat_le] at hQz); first | trivial)))
 | (apply st_co; (case hc => (simp only [go_sem, *] <;> rfl)); (case hl => (simp only [go_sem, *] <;> rfl)); (case hn => (simp only [go_sem, *] <;> rfl)); (case hp => first | exact c0 | (have hXz := c0; simp only [go_sem, *] at hXz; exact hXz)))
 | (apply st_cd; (case hc => (simp only [go_sem, *] <;> rfl)); (case hl => (simp only [go_sem, *] <;> rfl)); (case hn => (simp only [go_sem, *] <;> rfl)); (case hp => first | exact c1 | (have hXz := c1; simp only [go_sem, *] at hXz; exact hXz)); (case hd => first | exact .v _ | exact .any | exact .nils | (repeat' (first | exact Dry.v _ | exact Dry.any | exact Dry.nils | exact Dry.slE | refine Dry.agg ?_ | refine Dry.tup ?_ | (refine List.forall_mem_cons.2 (And.intro ?_ ?_)) | (intro cQ hQ; cases hQ; done)))); (case hm => first | decide | (simp; done)))
 | (apply st_cd; (case hc => (simp only [go_sem, *] <;> rfl)); (case hl => (simp only [go_sem, *] <;> rfl)); (case hn => (simp only [go_sem, *] <;> rfl)); (case hp => first | exact c2 | (have hXz := c2; simp only [go_sem, *] at hXz; exact hXz)); (case hd => first | exact .v _ | exact .any | exact .nils | (repeat' (first | exact Dry.v _ | exact Dry.any | exact Dry.nils | exact Dry.slE | refine Dry.agg ?_ | refine Dry.tup ?_ | (refine List.forall_mem_cons.2 (And.intro ?_ ?_)) | (intro cQ hQ; cases hQ; done)))); (case hm => first | decide | (simp; done)))
 | (apply st_g; (case hv => (simp only [go_sem, *] <;> rfl)); all_goals (intro hg; (try simp only [Bool.not_true, Bool.not_false, reduceCtorEq] at hg)))
 | (refine Awp.skip ?_; try simp only [go_sem, *])
 | refine Awp.block ?_
 | (apply Awp.cond; (case hc => (simp only [go_sem, *] <;> rfl)); all_goals (intro hg; (try simp only [Bool.not_true, Bool.not_false, reduceCtorEq] at hg)))
 | refine Awp.seq ?_)
  clear c1 c2
  refine Awp.loop (fun y : Nat × List Te => y.1 ≤ W.length ∧ OrdI g y.2) 60 (fun y => mkS [(0, .sl (tes g)), (1, .sl (strs W)), (5, .sl (tes y.2)), (6, .v (.int .i64 y.1))] []) (fun y => W.length - y.1) (0, cleanE g) ⟨Nat.zero_le _, hI0⟩ ?_ ?_
  · clear hsz hI0 hC0 c0
    (apply Ghost.mk [] [2]; (case hdead => rfl); (case hinj => rfl); (case hV => (simp only [go_sem, *]) <;> (repeat' (first | refine And.intro ?_ ?_ | exact View.int (by first | rfl | omega | (simp; done) | (rw [wrap_i64] <;> (try simp only [Int.natCast_add]) <;> omega) | (simp [*]; done)) | exact View.low (Lower.ownE (by first | rfl | (simp only [go_sem, *] <;> rfl)) (by first | rfl | omega | (simp; done) | (rw [wrap_i64] <;> (try simp only [Int.natCast_add]) <;> omega) | (simp [*]; done)))))); (case hB => (simp only [go_sem, *]) <;> (repeat' (first | skip; done))))
  · intro ⟨i, l⟩ ⟨hi, hI⟩
    clear hI0
    dsimp only at hi hI ⊢
    have hll : l.length = g.length := by rw [← clean_len l, hI.cln, hcl]
    have haf : ∀ i, i < l.length → (l.getD i zeroTe).af.length ≤ 30 := fun i hi => by
      rw [(clean_ids hI.cln i).2]; exact (hsz i (by omega)).2
    have haf2 : ∀ i, i < l.length → (l.getD i zeroTe).af.length < 100000 := fun i hi => by have := haf i hi; omega
    have hcl2 : chkT l = 0 := by rw [← chkT_clean, hI.cln, chkT_clean, hC0]
    have hD := (right_of hcl2).dist
    by_cases hiW : i < W.length
    · have hiW' : (i : Int) < W.length := by omega
      have hat := strs_at0 W i hiW
      generalize W.getD i zeroB = u at *
      have c1 := pass_ok l u (by omega) haf2
      rcases pass_cases l u with ⟨hz, hcode⟩ | ⟨i0, hy⟩
      · rw [hz] at c1
        clear haf haf2 hcl2 hsz hC0 c0 hz hD
        have hnx : OrdI g l := hI
        clear hI
        generalize (passT l u).2 = E at *
        have hE : (E != 0) = true ∧ ((E != 8) = false ∨ ((E != 14) = false ∨ (E != 11) = false)) := by
          rcases hcode with h | h | h <;> subst h <;> decide
        rcases hcode with h | h | h <;> subst h
        · clear hE
          repeat' (first
 | (apply Awp.sreg; (case hn => (simp only [List.length_cons, List.length_nil, Nat.reduceAdd] <;> rfl)))
 | (refine st_nil ?_)
 | (apply st_a; (case hc => rfl); (case he => (simp only [go_sem, *] <;> rfl)); (case hu => (simp only [updL_nil, updL_cons] <;> rfl)); (case hp => first | trivial | omega))
 | (apply st_m; (case hc => rfl); (case hg => (simp only [go_sem, *] <;> rfl)); (case he => (intro hQz; (try simp only [wantB_t, wantB_f, Bool.and_eq_true, Bool.not_eq_true', Bool.not_true, Bool.not_false, and_true, true_and] at hQz); simp only [go_sem, *] <;> rfl)); (case hp => (intro hQz; (try simp only [wantB_t, wantB_f, Bool.and_eq_true, Bool.not_eq_true', Bool.or_eq_false_iff, decide_eq_true_eq, decide_eq_false_iff_not, beq_iff_eq, beq_eq_false_iff_ne, bne_iff_ne, bne_eq_false_iff_eq, Int.not_lt, Int.not_le, Int.ofNat_lt, Int.ofNat_le] at hQz); first | trivial)))
 | (apply st_c; (case hc => (simp only [go_sem, *] <;> rfl)); (case hl => (simp only [go_sem, *] <;> rfl)); (case hn => (simp only [go_sem, *] <;> rfl)); (case hp => first | exact c1 | (have hXz := c1; simp only [go_sem, *] at hXz; exact hXz)))
 | (apply Awp.reg; (case hn => (simp only [List.length_cons, List.length_nil, Nat.reduceAdd] <;> rfl)))
 | (refine Awp.ret ?_; try simp only [go_sem, *])
 | (refine Awp.skip ?_; try simp only [go_sem, *])
 | (refine Awp.exit ?_; try simp only [go_sem, *])
 | refine Awp.block ?_
 | (apply Awp.cond; (case hc => (simp only [go_sem, *] <;> rfl)); all_goals (intro hg; (try simp only [Bool.not_true, Bool.not_false, reduceCtorEq] at hg)))
 | refine Awp.seq ?_)
          all_goals (try (exfalso; exact absurd hg (by decide)))
          all_goals (refine ⟨(i + 1, l), ⟨by dsimp only; omega, hnx⟩, by dsimp only; omega, ?_⟩; dsimp only; clear hnx c1; (apply Ghost.mk [] []; (case hdead => rfl); (case hinj => rfl); (case hV => (simp only [go_sem, *]) <;> (repeat' (first | exact View.int (by first | rfl | omega | (simp; done) | (rw [wrap_i64] <;> (try simp only [Int.natCast_add]) <;> omega) | (simp [*]; done))))); (case hB => (simp only [go_sem, *]) <;> (repeat' (first | skip; done)))))
        · clear hE
          repeat' (first
 | (apply Awp.sreg; (case hn => (simp only [List.length_cons, List.length_nil, Nat.reduceAdd] <;> rfl)))
 | (refine st_nil ?_)
 | (apply st_a; (case hc => rfl); (case he => (simp only [go_sem, *] <;> rfl)); (case hu => (simp only [updL_nil, updL_cons] <;> rfl)); (case hp => first | trivial | omega))
 | (apply st_m; (case hc => rfl); (case hg => (simp only [go_sem, *] <;> rfl)); (case he => (intro hQz; (try simp only [wantB_t, wantB_f, Bool.and_eq_true, Bool.not_eq_true', Bool.not_true, Bool.not_false, and_true, true_and] at hQz); simp only [go_sem, *] <;> rfl)); (case hp => (intro hQz; (try simp only [wantB_t, wantB_f, Bool.and_eq_true, Bool.not_eq_true', Bool.or_eq_false_iff, decide_eq_true_eq, decide_eq_false_iff_not, beq_iff_eq, beq_eq_false_iff_ne, bne_iff_ne, bne_eq_false_iff_eq, Int.not_lt, Int.not_le, Int.ofNat_lt, Int.ofNat_le] at hQz); first | trivial)))
 | (apply st_c; (case hc => (simp only [go_sem, *] <;> rfl)); (case hl => (simp only [go_sem, *] <;> rfl)); (case hn => (simp only [go_sem, *] <;> rfl)); (case hp => first | exact c1 | (have hXz := c1; simp only [go_sem, *] at hXz; exact hXz)))
 | (apply Awp.reg; (case hn => (simp only [List.length_cons, List.length_nil, Nat.reduceAdd] <;> rfl)))
 | (refine Awp.ret ?_; try simp only [go_sem, *])
 | (refine Awp.skip ?_; try simp only [go_sem, *])
 | (refine Awp.exit ?_; try simp only [go_sem, *])
 | refine Awp.block ?_
 | (apply Awp.cond; (case hc => (simp only [go_sem, *] <;> rfl)); all_goals (intro hg; (try simp only [Bool.not_true, Bool.not_false, reduceCtorEq] at hg)))
 | refine Awp.seq ?_)
          all_goals (try (exfalso; exact absurd hg (by decide)))
          all_goals (refine ⟨(i + 1, l), ⟨by dsimp only; omega, hnx⟩, by dsimp only; omega, ?_⟩; dsimp only; clear hnx c1; (apply Ghost.mk [] []; (case hdead => rfl); (case hinj => rfl); (case hV => (simp only [go_sem, *]) <;> (repeat' (first | exact View.int (by first | rfl | omega | (simp; done) | (rw [wrap_i64] <;> (try simp only [Int.natCast_add]) <;> omega) | (simp [*]; done))))); (case hB => (simp only [go_sem, *]) <;> (repeat' (first | skip; done)))))
        · clear hE
          repeat' (first
 | (apply Awp.sreg; (case hn => (simp only [List.length_cons, List.length_nil, Nat.reduceAdd] <;> rfl)))
 | (refine st_nil ?_)
 | (apply st_a; (case hc => rfl); (case he => (simp only [go_sem, *] <;> rfl)); (case hu => (simp only [updL_nil, updL_cons] <;> rfl)); (case hp => first | trivial | omega))
 | (apply st_m; (case hc => rfl); (case hg => (simp only [go_sem, *] <;> rfl)); (case he => (intro hQz; (try simp only [wantB_t, wantB_f, Bool.and_eq_true, Bool.not_eq_true', Bool.not_true, Bool.not_false, and_true, true_and] at hQz); simp only [go_sem, *] <;> rfl)); (case hp => (intro hQz; (try simp only [wantB_t, wantB_f, Bool.and_eq_true, Bool.not_eq_true', Bool.or_eq_false_iff, decide_eq_true_eq, decide_eq_false_iff_not, beq_iff_eq, beq_eq_false_iff_ne, bne_iff_ne, bne_eq_false_iff_eq, Int.not_lt, Int.not_le, Int.ofNat_lt, Int.ofNat_le] at hQz); first | trivial)))
 | (apply st_c; (case hc => (simp only [go_sem, *] <;> rfl)); (case hl => (simp only [go_sem, *] <;> rfl)); (case hn => (simp only [go_sem, *] <;> rfl)); (case hp => first | exact c1 | (have hXz := c1; simp only [go_sem, *] at hXz; exact hXz)))
 | (apply Awp.reg; (case hn => (simp only [List.length_cons, List.length_nil, Nat.reduceAdd] <;> rfl)))
 | (refine Awp.ret ?_; try simp only [go_sem, *])
 | (refine Awp.skip ?_; try simp only [go_sem, *])
 | (refine Awp.exit ?_; try simp only [go_sem, *])
 | refine Awp.block ?_
 | (apply Awp.cond; (case hc => (simp only [go_sem, *] <;> rfl)); all_goals (intro hg; (try simp only [Bool.not_true, Bool.not_false, reduceCtorEq] at hg)))
 | refine Awp.seq ?_)
          all_goals (try (exfalso; exact absurd hg (by decide)))
          all_goals (refine ⟨(i + 1, l), ⟨by dsimp only; omega, hnx⟩, by dsimp only; omega, ?_⟩; dsimp only; clear hnx c1; (apply Ghost.mk [] []; (case hdead => rfl); (case hinj => rfl); (case hV => (simp only [go_sem, *]) <;> (repeat' (first | exact View.int (by first | rfl | omega | (simp; done) | (rw [wrap_i64] <;> (try simp only [Int.natCast_add]) <;> omega) | (simp [*]; done))))); (case hB => (simp only [go_sem, *]) <;> (repeat' (first | skip; done)))))
      · rw [hy.val] at c1
        have hnx : OrdI g (l.set i0 ⟨(l.getD i0 zeroTe).id, (l.getD i0 zeroTe).af, true⟩) := ⟨by rw [clean_set hy.lt]; exact hI.cln, ord_set hD hI.ord hy⟩
        have hL := left_set hD hy
        have hLl := left_set_len hy
        obtain ⟨m, hm⟩ : ∃ m, l.set i0 ⟨(l.getD i0 zeroTe).id, (l.getD i0 zeroTe).af, true⟩ = m := ⟨_, rfl⟩
        rw [hm] at c1 hnx hL hLl
        have hml : m.length = g.length := by rw [← hm, List.length_set, hll]
        have c2 := left_ok l (by omega)
        have c3 := left_ok m (by omega)
        have c4 := clean_ok m (by omega)
        rw [hnx.cln] at c4
        have c6 := samete_ok (cleanE g) (by omega) (fun i hi => by rw [clean_at]; have := (hsz i (by omega)).2; dsimp only; omega)
        have hFl := leftE_len l
        rw [show (leftE l).filter (fun x => !(x.toList == u.toList)) = wantE (leftE l) u from rfl] at hL
        rw [hL] at c3 hLl
        clear haf haf2 hcl2 hsz hC0 hI hy hD hm hL
        generalize leftE l = F at *
        have hFs : (strs F).length = F.length := by simp [strs]
        have c5 := samest_ok (wantE F u) (by omega)
        repeat' (first
 | (apply Awp.sreg; (case hn => (simp only [List.length_cons, List.length_nil, Nat.reduceAdd] <;> rfl)))
 | (refine st_nil ?_)
 | (apply st_a; (case hc => rfl); (case he => (simp only [go_sem, *] <;> rfl)); (case hu => (simp only [updL_nil, updL_cons] <;> rfl)); (case hp => first | trivial | omega))
 | (apply st_c; (case hc => (simp only [go_sem, *] <;> rfl)); (case hl => (simp only [go_sem, *] <;> rfl)); (case hn => (simp only [go_sem, *] <;> rfl)); (case hp => first | exact c1 | (have hXz := c1; simp only [go_sem, *] at hXz; exact hXz)))
 | (apply st_co; (case hc => (simp only [go_sem, *] <;> rfl)); (case hl => (simp only [go_sem, *] <;> rfl)); (case hn => (simp only [go_sem, *] <;> rfl)); (case hp => first | exact c2 | (have hXz := c2; simp only [go_sem, *] at hXz; exact hXz)))
 | (refine Awp.skip ?_; try simp only [go_sem, *])
 | refine Awp.block ?_
 | (apply Awp.cond; (case hc => (simp only [go_sem, *] <;> rfl)); all_goals (intro hg; (try simp only [Bool.not_true, Bool.not_false, reduceCtorEq] at hg)))
 | refine Awp.seq ?_)
        refine Awp.loop (fun k : Nat => k ≤ F.length) 120 (fun k => mkS [(0, .sl (tes g)), (1, .sl (strs W)), (5, .sl (tes l)), (6, .v (.int .i64 i)), (7, .sl (tes m)), (9, .own 0), (10, .sl (strs F)), (11, .v (.int .i64 k))] [(0, .row (strs (wantE (F.take k) u)) 1 9)]) (fun k => F.length - k) 0 (by omega) ?_ ?_
        · refine Ghost.trans (Ghost.name 9 1 9 rfl (by decide)) ?_
          have e1 : strs (wantE (F.take 0) u) = [] := rfl
          rw [e1]
          clear c0 c1 c2 c3 c4 c5 c6 hnx
          (apply Ghost.mk [(0, 82)] [79]; (case hdead => rfl); (case hinj => rfl); (case hV => (simp only [go_sem, *]) <;> (repeat' (first | refine And.intro ?_ ?_ | exact View.int (by first | rfl | omega | (simp; done) | (rw [wrap_i64] <;> (try simp only [Int.natCast_add]) <;> omega) | (simp [*]; done)) | exact .own rfl (by decide) | exact View.low (Lower.ownE (by first | rfl | (simp only [go_sem, *] <;> rfl)) (by first | rfl | omega | (simp; done) | (rw [wrap_i64] <;> (try simp only [Int.natCast_add]) <;> omega) | (simp [*]; done)))))); (case hB => (simp only [go_sem, *]) <;> (repeat' (first | exact ⟨_, rfl, .rowE (by first | rfl | omega | (simp; done) | (rw [wrap_i64] <;> (try simp only [Int.natCast_add]) <;> omega) | (simp [*]; done))⟩))))
        · intro k hk
          by_cases hkl : k < F.length
          · have hkl' : (k : Int) < F.length := by omega
            have hatk := strs_at0 F k hkl
            have hst := want_step F u k hkl
            have hwl := want_len (F.take k) u
            rw [List.length_take] at hwl
            have hws : (strs (wantE (F.take k) u)).length = (wantE (F.take k) u).length := by simp [strs]
            clear c0 c1 c2 c3 c4 c5 c6 hnx
            cases hx : ((F.getD k zeroB).toList == u.toList)
            · rw [hx, if_neg (by decide)] at hst
              generalize F.getD k zeroB = x at *
              repeat' (first
 | (apply Awp.sreg; (case hn => (simp only [List.length_cons, List.length_nil, Nat.reduceAdd] <;> rfl)))
 | (apply Awp.sdraw; (case hn => (simp only [List.length_cons, List.length_nil, Nat.reduceAdd] <;> rfl)))
 | (refine st_nil ?_)
 | (apply st_a; (case hc => rfl); (case he => (simp only [go_sem, *] <;> rfl)); (case hu => (simp only [updL_nil, updL_cons] <;> rfl)); (case hp => first | trivial | omega | (simp; done) | (simp; omega)))
 | (apply Awp.reg; (case hn => (simp only [List.length_cons, List.length_nil, Nat.reduceAdd] <;> rfl)))
 | (refine Awp.skip ?_; try simp only [go_sem, *])
 | refine Awp.block ?_
 | (apply Awp.cond; (case hc => (simp only [go_sem, *] <;> rfl)); all_goals (intro hg; (try simp only [Bool.not_true, Bool.not_false, reduceCtorEq] at hg)))
 | refine Awp.seq ?_
 | (apply sl_a; (case hc => rfl); (case he => (simp only [go_sem, *] <;> rfl)); (case hu => (simp only [updL_nil, updL_cons] <;> rfl)); (case hl => (simp only [List.map_cons, List.map_nil] <;> rfl)); (case hp => first | trivial | omega))
 | (refine sl_nil (And.intro (by first | exact drawOk_of (by decide +kernel) | (simp only [List.map_cons, List.map_nil]; exact drawOk_of (by decide +kernel)) | decide) ?_)))
              all_goals (refine ⟨k + 1, by omega, by omega, ?_⟩; rw [hst, ← strs_snoc0]; clear hst; (apply Ghost.mk [(0, 139)] []; (case hdead => rfl); (case hinj => rfl); (case hV => (simp only [go_sem, *]) <;> (repeat' (first | refine And.intro ?_ ?_ | exact View.int (by first | rfl | omega | (simp; done) | (rw [wrap_i64] <;> (try simp only [Int.natCast_add]) <;> omega) | (simp [*]; done)) | exact .own rfl (by decide)))); (case hB => (simp only [go_sem, *]) <;> (repeat' (first | exact ⟨_, rfl, .rowE (by first | rfl | omega | (simp; done) | (rw [wrap_i64] <;> (try simp only [Int.natCast_add]) <;> omega) | (simp [*]; done))⟩)))))
            · rw [hx, if_pos rfl, List.append_nil] at hst
              generalize F.getD k zeroB = x at *
              repeat' (first
 | (apply Awp.sreg; (case hn => (simp only [List.length_cons, List.length_nil, Nat.reduceAdd] <;> rfl)))
 | (apply Awp.sdraw; (case hn => (simp only [List.length_cons, List.length_nil, Nat.reduceAdd] <;> rfl)))
 | (refine st_nil ?_)
 | (apply st_a; (case hc => rfl); (case he => (simp only [go_sem, *] <;> rfl)); (case hu => (simp only [updL_nil, updL_cons] <;> rfl)); (case hp => first | trivial))
 | (apply Awp.reg; (case hn => (simp only [List.length_cons, List.length_nil, Nat.reduceAdd] <;> rfl)))
 | (refine Awp.skip ?_; try simp only [go_sem, *])
 | refine Awp.block ?_
 | (apply Awp.cond; (case hc => (simp only [go_sem, *] <;> rfl)); all_goals (intro hg; (try simp only [Bool.not_true, Bool.not_false, reduceCtorEq] at hg)))
 | refine Awp.seq ?_
 | (apply sl_a; (case hc => rfl); (case he => (simp only [go_sem, *] <;> rfl)); (case hu => (simp only [updL_nil, updL_cons] <;> rfl)); (case hl => (simp only [List.map_cons, List.map_nil] <;> rfl)); (case hp => first | trivial | omega))
 | (refine sl_nil (And.intro (by first | exact drawOk_of (by decide +kernel) | (simp only [List.map_cons, List.map_nil]; exact drawOk_of (by decide +kernel)) | decide) ?_)))
              all_goals (refine ⟨k + 1, by omega, by omega, ?_⟩; rw [hst]; clear hst; (apply Ghost.mk [(0, 0)] []; (case hdead => rfl); (case hinj => rfl); (case hV => (simp only [go_sem, *]) <;> (repeat' (first | refine And.intro ?_ ?_ | exact View.int (by first | rfl | omega | (simp; done) | (rw [wrap_i64] <;> (try simp only [Int.natCast_add]) <;> omega) | (simp [*]; done)) | exact .own rfl (by decide)))); (case hB => (simp only [go_sem, *]) <;> (repeat' (first | exact ⟨_, rfl, .rowE (by first | rfl | omega | (simp; done) | (rw [wrap_i64] <;> (try simp only [Int.natCast_add]) <;> omega) | (simp [*]; done))⟩)))))
          · have hkl' : ¬ (k : Int) < F.length := by omega
            have e1 : F.take k = F := List.take_of_length_le (by omega)
            rw [e1]
            have hws : (strs (wantE F u)).length = (wantE F u).length := by simp [strs]
            have hadd : (wantE F u).length + 1 = F.length := hLl
            clear e1 hk hkl c1 c2 hLl
            have hnx' : Hid (OrdI g m) := hnx
            clear hnx
            generalize wantE F u = V at *
            generalize cleanE g = G at *
            have haddb : (IntKind.i64.wrap ((V.length : Int) + 1) != (F.length : Int)) = false := by
              rw [wrap_i64 (by omega) (by omega)]
              simp
              omega
            repeat' (first
 | (apply Awp.sreg; (case hn => (simp only [List.length_cons, List.length_nil, Nat.reduceAdd] <;> rfl)))
 | (refine st_nil ?_)
 | (apply st_a; (case hc => rfl); (case he => (simp only [go_sem, *] <;> rfl)); (case hu => (simp only [updL_nil, updL_cons] <;> rfl)); (case hp => first | trivial))
 | (apply st_m; (case hc => rfl); (case hg => (simp only [go_sem, *] <;> rfl)); (case he => (intro hQz; (try simp only [wantB_t, wantB_f, Bool.and_eq_true, Bool.not_eq_true', Bool.not_true, Bool.not_false, and_true, true_and] at hQz); simp only [go_sem, *] <;> rfl)); (case hp => (intro hQz; (try simp only [wantB_t, wantB_f, Bool.and_eq_true, Bool.not_eq_true', Bool.or_eq_false_iff, decide_eq_true_eq, decide_eq_false_iff_not, beq_iff_eq, beq_eq_false_iff_ne, bne_iff_ne, bne_eq_false_iff_eq, Int.not_lt, Int.not_le, Int.ofNat_lt, Int.ofNat_le] at hQz); first | trivial)))
 | (apply st_co; (case hc => (simp only [go_sem, *] <;> rfl)); (case hl => (simp only [go_sem, *] <;> rfl)); (case hn => (simp only [go_sem, *] <;> rfl)); (case hp => first | exact c3 | (have hXz := c3; simp only [go_sem, *] at hXz; exact hXz)))
 | (apply st_cd; (case hc => (simp only [go_sem, *] <;> rfl)); (case hl => (simp only [go_sem, *] <;> rfl)); (case hn => (simp only [go_sem, *] <;> rfl)); (case hp => first | exact c5 | (have hXz := c5; simp only [go_sem, *] at hXz; exact hXz)); (case hd => first | exact .v _ | exact .any | exact .nils | (repeat' (first | exact Dry.v _ | exact Dry.any | exact Dry.nils | exact Dry.slE | refine Dry.agg ?_ | refine Dry.tup ?_ | (refine List.forall_mem_cons.2 (And.intro ?_ ?_)) | (intro cQ hQ; cases hQ; done)))); (case hm => first | decide | (simp; done)))
 | (apply st_co; (case hc => (simp only [go_sem, *] <;> rfl)); (case hl => (simp only [go_sem, *] <;> rfl)); (case hn => (simp only [go_sem, *] <;> rfl)); (case hp => first | exact c4 | (have hXz := c4; simp only [go_sem, *] at hXz; exact hXz)))
 | (apply st_co; (case hc => (simp only [go_sem, *] <;> rfl)); (case hl => (simp only [go_sem, *] <;> rfl)); (case hn => (simp only [go_sem, *] <;> rfl)); (case hp => first | exact c0 | (have hXz := c0; simp only [go_sem, *] at hXz; exact hXz)))
 | (apply st_cd; (case hc => (simp only [go_sem, *] <;> rfl)); (case hl => (simp only [go_sem, *] <;> rfl)); (case hn => (simp only [go_sem, *] <;> rfl)); (case hp => first | exact c6 | (have hXz := c6; simp only [go_sem, *] at hXz; exact hXz)); (case hd => first | exact .v _ | exact .any | exact .nils | (repeat' (first | exact Dry.v _ | exact Dry.any | exact Dry.nils | exact Dry.slE | refine Dry.agg ?_ | refine Dry.tup ?_ | (refine List.forall_mem_cons.2 (And.intro ?_ ?_)) | (intro cQ hQ; cases hQ; done)))); (case hm => first | decide | (simp; done)))
 | (apply st_g; (case hv => (simp only [go_sem, *] <;> rfl)); all_goals (intro hg; (try simp only [Bool.not_true, Bool.not_false, reduceCtorEq] at hg)))
 | (apply Awp.reg; (case hn => (simp only [List.length_cons, List.length_nil, Nat.reduceAdd] <;> rfl)))
 | (refine Awp.skip ?_; try simp only [go_sem, *])
 | (refine Awp.exit ?_; try simp only [go_sem, *])
 | (apply Awp.cond; (case hc => (simp only [go_sem, *] <;> rfl)); all_goals (intro hg; (try simp only [Bool.not_true, Bool.not_false, reduceCtorEq] at hg)))
 | refine Awp.seq ?_)
            all_goals (refine ⟨(i + 1, m), ⟨by dsimp only; omega, hnx'⟩, by dsimp only; omega, ?_⟩; dsimp only; clear hnx' c0 c3 c4 c5 c6; (apply Ghost.mk [] []; (case hdead => rfl); (case hinj => rfl); (case hV => (simp only [go_sem, *]) <;> (repeat' (first | exact View.int (by first | rfl | omega | (simp; done) | (rw [wrap_i64] <;> (try simp only [Int.natCast_add]) <;> omega) | (simp [*]; done))))); (case hB => (simp only [go_sem, *]) <;> (repeat' (first | skip; done)))))
    · have hiW' : ¬ (i : Int) < W.length := by omega
      have hO := hI.ord
      have hlb : l.length < 10000 := by omega
      clear hcl2 hsz hC0 c0 hD hI haf2 hll
      repeat' (first
 | (apply Awp.sreg; (case hn => (simp only [List.length_cons, List.length_nil, Nat.reduceAdd] <;> rfl)))
 | (refine st_nil ?_)
 | (apply st_a; (case hc => rfl); (case he => (simp only [go_sem, *] <;> rfl)); (case hu => (simp only [updL_nil, updL_cons] <;> rfl)); (case hp => first | trivial))
 | (refine Awp.exit ?_; try simp only [go_sem, *])
 | refine Awp.block ?_
 | (apply Awp.cond; (case hc => (simp only [go_sem, *] <;> rfl)); all_goals (intro hg; (try simp only [Bool.not_true, Bool.not_false, reduceCtorEq] at hg)))
 | refine Awp.seq ?_)
      refine Awp.loop (fun a : Nat => a ≤ l.length) 120 (fun a => mkS [(0, .sl (tes g)), (1, .sl (strs W)), (5, .sl (tes l)), (12, .v (.int .i64 a))] []) (fun a => l.length - a) 0 (by omega) ?_ ?_
      · clear haf hO
        (apply Ghost.mk [] []; (case hdead => rfl); (case hinj => rfl); (case hV => (simp only [go_sem, *]) <;> (repeat' (first | exact View.int (by first | rfl | omega | (simp; done) | (rw [wrap_i64] <;> (try simp only [Int.natCast_add]) <;> omega) | (simp [*]; done))))); (case hB => (simp only [go_sem, *]) <;> (repeat' (first | skip; done))))
      · intro a ha
        by_cases hal : a < l.length
        · have hal' : (a : Int) < l.length := by omega
          have hata := tes_at l a hal
          have hza : ((l.getD a zeroTe).cells).length = 3 := rfl
          have hOa := hO a hal
          have hafa := haf a hal
          have hO' : Hid (OrdT l) := hO
          have haf' : Hid (∀ i, i < l.length → (l.getD i zeroTe).af.length ≤ 30) := haf
          clear hO haf
          generalize l.getD a zeroTe = q at *
          have hsq : (strs q.af).length = q.af.length := by simp [strs]
          repeat' (first
 | (apply Awp.sreg; (case hn => (simp only [List.length_cons, List.length_nil, Nat.reduceAdd] <;> rfl)))
 | (refine st_nil ?_)
 | (apply st_a; (case hc => rfl); (case he => (simp only [go_sem, *] <;> rfl)); (case hu => (simp only [updL_nil, updL_cons] <;> rfl)); (case hp => first | trivial))
 | (refine Awp.skip ?_; try simp only [go_sem, *])
 | refine Awp.block ?_
 | (apply Awp.cond; (case hc => (simp only [go_sem, *] <;> rfl)); all_goals (intro hg; (try simp only [Bool.not_true, Bool.not_false, reduceCtorEq] at hg)))
 | refine Awp.seq ?_)
          refine Awp.loop (fun k : Nat => k ≤ q.af.length) 180 (fun k => mkS [(0, .sl (tes g)), (1, .sl (strs W)), (5, .sl (tes l)), (12, .v (.int .i64 a)), (13, .v (.int .i64 k))] []) (fun k => q.af.length - k) 0 (by omega) ?_ ?_
          · clear hOa
            (apply Ghost.mk [] []; (case hdead => rfl); (case hinj => rfl); (case hV => (simp only [go_sem, *]) <;> (repeat' (first | exact View.int (by first | rfl | omega | (simp; done) | (rw [wrap_i64] <;> (try simp only [Int.natCast_add]) <;> omega) | (simp [*]; done))))); (case hB => (simp only [go_sem, *]) <;> (repeat' (first | skip; done))))
          · intro k hk
            by_cases hkl : k < q.af.length
            · have hkl' : (k : Int) < q.af.length := by omega
              have hatk := strs_at0 q.af k hkl
              have hmem : q.af.getD k zeroB ∈ q.af := by rw [getD_get q.af zeroB k hkl]; exact List.getElem_mem _
              have hOs := fun h => hOa h _ hmem
              clear hOa hmem
              cases hdn : q.dn
              · clear hOs
                repeat' (first
 | (apply Awp.sreg; (case hn => (simp only [List.length_cons, List.length_nil, Nat.reduceAdd] <;> rfl)))
 | (refine st_nil ?_)
 | (apply st_a; (case hc => rfl); (case he => (simp only [go_sem, *] <;> rfl)); (case hu => (simp only [updL_nil, updL_cons] <;> rfl)); (case hp => first | trivial | omega))
 | (apply st_m; (case hc => rfl); (case hg => (simp only [go_sem, *] <;> rfl)); (case he => (intro hQz; (try simp only [wantB_t, wantB_f, Bool.and_eq_true, Bool.not_eq_true', Bool.not_true, Bool.not_false, and_true, true_and] at hQz); simp only [go_sem, *] <;> rfl)); (case hp => (intro hQz; (try simp only [wantB_t, wantB_f, Bool.and_eq_true, Bool.not_eq_true', Bool.or_eq_false_iff, decide_eq_true_eq, decide_eq_false_iff_not, beq_iff_eq, beq_eq_false_iff_ne, bne_iff_ne, bne_eq_false_iff_eq, Int.not_lt, Int.not_le, Int.ofNat_lt, Int.ofNat_le] at hQz); first | trivial | omega)))
 | (apply Awp.reg; (case hn => (simp only [List.length_cons, List.length_nil, Nat.reduceAdd] <;> rfl)))
 | (refine Awp.exit ?_; try simp only [go_sem, *])
 | (apply Awp.cond; (case hc => (simp only [go_sem, *] <;> rfl)); all_goals (intro hg; (try simp only [Bool.not_true, Bool.not_false, reduceCtorEq] at hg)))
 | refine Awp.seq ?_)
                all_goals (refine ⟨a + 1, by omega, by omega, ?_⟩; (apply Ghost.mk [] []; (case hdead => rfl); (case hinj => rfl); (case hV => (simp only [go_sem, *]) <;> (repeat' (first | exact View.int (by first | rfl | omega | (simp; done) | (rw [wrap_i64] <;> (try simp only [Int.natCast_add]) <;> omega) | (simp [*]; done))))); (case hB => (simp only [go_sem, *]) <;> (repeat' (first | skip; done)))))
              · have hOs := hOs hdn
                generalize q.af.getD k zeroB = s at *
                repeat' (first
 | (apply Awp.sreg; (case hn => (simp only [List.length_cons, List.length_nil, Nat.reduceAdd] <;> rfl)))
 | (refine st_nil ?_)
 | (apply st_a; (case hc => rfl); (case he => (simp only [go_sem, *] <;> rfl)); (case hu => (simp only [updL_nil, updL_cons] <;> rfl)); (case hp => first | trivial | omega))
 | (apply st_m; (case hc => rfl); (case hg => (simp only [go_sem, *] <;> rfl)); (case he => (intro hQz; (try simp only [wantB_t, wantB_f, Bool.and_eq_true, Bool.not_eq_true', Bool.not_true, Bool.not_false, and_true, true_and] at hQz); simp only [go_sem, *] <;> rfl)); (case hp => (intro hQz; (try simp only [wantB_t, wantB_f, Bool.and_eq_true, Bool.not_eq_true', Bool.or_eq_false_iff, decide_eq_true_eq, decide_eq_false_iff_not, beq_iff_eq, beq_eq_false_iff_ne, bne_iff_ne, bne_eq_false_iff_eq, Int.not_lt, Int.not_le, Int.ofNat_lt, Int.ofNat_le] at hQz); first | trivial | omega)))
 | (refine Awp.skip ?_; try simp only [go_sem, *])
 | refine Awp.block ?_
 | (apply Awp.cond; (case hc => (simp only [go_sem, *] <;> rfl)); all_goals (intro hg; (try simp only [Bool.not_true, Bool.not_false, reduceCtorEq] at hg)))
 | refine Awp.seq ?_)
                refine Awp.loop (fun j : Nat => j ≤ l.length) 240 (fun j => mkS [(0, .sl (tes g)), (1, .sl (strs W)), (5, .sl (tes l)), (12, .v (.int .i64 a)), (13, .v (.int .i64 k)), (14, .v (.int .i64 j))] []) (fun j => l.length - j) 0 (by omega) ?_ ?_
                · clear hOs
                  (apply Ghost.mk [] []; (case hdead => rfl); (case hinj => rfl); (case hV => (simp only [go_sem, *]) <;> (repeat' (first | exact View.int (by first | rfl | omega | (simp; done) | (rw [wrap_i64] <;> (try simp only [Int.natCast_add]) <;> omega) | (simp [*]; done))))); (case hB => (simp only [go_sem, *]) <;> (repeat' (first | skip; done))))
                · intro j hj
                  by_cases hjl : j < l.length
                  · have hjl' : (j : Int) < l.length := by omega
                    have hatj := tes_at l j hjl
                    have hzj : ((l.getD j zeroTe).cells).length = 3 := rfl
                    have hOj := hOs j hjl
                    clear hOs
                    generalize l.getD j zeroTe = y at *
                    unfold isT at hOj
                    cases hb : (y.id.toList == s.toList)
                    · clear hOj
                      repeat' (first
 | (apply Awp.sreg; (case hn => (simp only [List.length_cons, List.length_nil, Nat.reduceAdd] <;> rfl)))
 | (apply Awp.sdraw; (case hn => (simp only [List.length_cons, List.length_nil, Nat.reduceAdd] <;> rfl)))
 | (refine st_nil ?_)
 | (apply st_a; (case hc => rfl); (case he => (simp only [go_sem, *] <;> rfl)); (case hu => (simp only [updL_nil, updL_cons] <;> rfl)); (case hp => first | trivial))
 | (apply Awp.reg; (case hn => (simp only [List.length_cons, List.length_nil, Nat.reduceAdd] <;> rfl)))
 | (refine Awp.skip ?_; try simp only [go_sem, *])
 | refine Awp.block ?_
 | (apply Awp.cond; (case hc => (simp only [go_sem, *] <;> rfl)); all_goals (intro hg; (try simp only [Bool.not_true, Bool.not_false, reduceCtorEq] at hg)))
 | refine Awp.seq ?_
 | (apply sl_a; (case hc => rfl); (case he => (simp only [go_sem, *] <;> rfl)); (case hu => (simp only [updL_nil, updL_cons] <;> rfl)); (case hl => (simp only [List.map_cons, List.map_nil] <;> rfl)); (case hp => first | trivial | omega))
 | (apply sl_gn; (case hv => (simp only [go_sem, *] <;> rfl)); (case hbw => rfl))
 | (refine sl_nil (And.intro (by first | exact drawOk_of (by decide +kernel) | (simp only [List.map_cons, List.map_nil]; exact drawOk_of (by decide +kernel)) | decide) ?_)))
                      all_goals (refine ⟨j + 1, by omega, by omega, ?_⟩; (apply Ghost.mk [] []; (case hdead => rfl); (case hinj => rfl); (case hV => (simp only [go_sem, *]) <;> (repeat' (first | exact View.int (by first | rfl | omega | (simp; done) | (rw [wrap_i64] <;> (try simp only [Int.natCast_add]) <;> omega) | (simp [*]; done))))); (case hB => (simp only [go_sem, *]) <;> (repeat' (first | skip; done)))))
                    · have hyd := hOj hb
                      clear hOj
                      repeat' (first
 | (apply Awp.sreg; (case hn => (simp only [List.length_cons, List.length_nil, Nat.reduceAdd] <;> rfl)))
 | (apply Awp.sdraw; (case hn => (simp only [List.length_cons, List.length_nil, Nat.reduceAdd] <;> rfl)))
 | (refine st_nil ?_)
 | (apply st_a; (case hc => rfl); (case he => (simp only [go_sem, *] <;> rfl)); (case hu => (simp only [updL_nil, updL_cons] <;> rfl)); (case hp => first | trivial))
 | (apply Awp.reg; (case hn => (simp only [List.length_cons, List.length_nil, Nat.reduceAdd] <;> rfl)))
 | (refine Awp.skip ?_; try simp only [go_sem, *])
 | refine Awp.block ?_
 | (apply Awp.cond; (case hc => (simp only [go_sem, *] <;> rfl)); all_goals (intro hg; (try simp only [Bool.not_true, Bool.not_false, reduceCtorEq] at hg)))
 | refine Awp.seq ?_
 | (apply sl_a; (case hc => rfl); (case he => (simp only [go_sem, *] <;> rfl)); (case hu => (simp only [updL_nil, updL_cons] <;> rfl)); (case hl => (simp only [List.map_cons, List.map_nil] <;> rfl)); (case hp => first | trivial | omega))
 | (apply sl_ga; (case hb => rfl); (case hv => (simp only [go_sem, *] <;> rfl)); (case he => (simp only [go_sem, *] <;> rfl)); (case hu => (simp only [updL_nil, updL_cons] <;> rfl)); (case hl => (simp only [List.map_cons, List.map_nil] <;> rfl)); (case hp => first | trivial | omega))
 | (refine sl_nil (And.intro (by first | exact drawOk_of (by decide +kernel) | (simp only [List.map_cons, List.map_nil]; exact drawOk_of (by decide +kernel)) | decide) ?_)))
                      all_goals (refine ⟨j + 1, by omega, by omega, ?_⟩; (apply Ghost.mk [] []; (case hdead => rfl); (case hinj => rfl); (case hV => (simp only [go_sem, *]) <;> (repeat' (first | exact View.int (by first | rfl | omega | (simp; done) | (rw [wrap_i64] <;> (try simp only [Int.natCast_add]) <;> omega) | (simp [*]; done))))); (case hB => (simp only [go_sem, *]) <;> (repeat' (first | skip; done)))))
                  · have hjl' : ¬ (j : Int) < l.length := by omega
                    clear hOs
                    repeat' (first
 | (apply Awp.sreg; (case hn => (simp only [List.length_cons, List.length_nil, Nat.reduceAdd] <;> rfl)))
 | (refine st_nil ?_)
 | (apply st_a; (case hc => rfl); (case he => (simp only [go_sem, *] <;> rfl)); (case hu => (simp only [updL_nil, updL_cons] <;> rfl)); (case hp => first | trivial))
 | (apply Awp.reg; (case hn => (simp only [List.length_cons, List.length_nil, Nat.reduceAdd] <;> rfl)))
 | (refine Awp.exit ?_; try simp only [go_sem, *])
 | (apply Awp.cond; (case hc => (simp only [go_sem, *] <;> rfl)); all_goals (intro hg; (try simp only [Bool.not_true, Bool.not_false, reduceCtorEq] at hg)))
 | refine Awp.seq ?_)
                    all_goals (refine ⟨k + 1, by omega, by omega, ?_⟩; (apply Ghost.mk [] []; (case hdead => rfl); (case hinj => rfl); (case hV => (simp only [go_sem, *]) <;> (repeat' (first | exact View.int (by first | rfl | omega | (simp; done) | (rw [wrap_i64] <;> (try simp only [Int.natCast_add]) <;> omega) | (simp [*]; done))))); (case hB => (simp only [go_sem, *]) <;> (repeat' (first | skip; done)))))
            · have hkl' : ¬ (k : Int) < q.af.length := by omega
              clear hOa
              repeat' (first
 | (apply Awp.sreg; (case hn => (simp only [List.length_cons, List.length_nil, Nat.reduceAdd] <;> rfl)))
 | (refine st_nil ?_)
 | (apply st_a; (case hc => rfl); (case he => (simp only [go_sem, *] <;> rfl)); (case hu => (simp only [updL_nil, updL_cons] <;> rfl)); (case hp => first | trivial | omega))
 | (apply st_m; (case hc => rfl); (case hg => (simp only [go_sem, *] <;> rfl)); (case he => (intro hQz; (try simp only [wantB_t, wantB_f, Bool.and_eq_true, Bool.not_eq_true', Bool.not_true, Bool.not_false, and_true, true_and] at hQz); simp only [go_sem, *] <;> rfl)); (case hp => (intro hQz; (try simp only [wantB_t, wantB_f, Bool.and_eq_true, Bool.not_eq_true', Bool.or_eq_false_iff, decide_eq_true_eq, decide_eq_false_iff_not, beq_iff_eq, beq_eq_false_iff_ne, bne_iff_ne, bne_eq_false_iff_eq, Int.not_lt, Int.not_le, Int.ofNat_lt, Int.ofNat_le] at hQz); first | trivial)))
 | (apply Awp.reg; (case hn => (simp only [List.length_cons, List.length_nil, Nat.reduceAdd] <;> rfl)))
 | (refine Awp.exit ?_; try simp only [go_sem, *])
 | (apply Awp.cond; (case hc => (simp only [go_sem, *] <;> rfl)); all_goals (intro hg; (try simp only [Bool.not_true, Bool.not_false, reduceCtorEq] at hg)))
 | refine Awp.seq ?_)
              all_goals (refine ⟨a + 1, by omega, by omega, ?_⟩; (apply Ghost.mk [] []; (case hdead => rfl); (case hinj => rfl); (case hV => (simp only [go_sem, *]) <;> (repeat' (first | exact View.int (by first | rfl | omega | (simp; done) | (rw [wrap_i64] <;> (try simp only [Int.natCast_add]) <;> omega) | (simp [*]; done))))); (case hB => (simp only [go_sem, *]) <;> (repeat' (first | skip; done)))))
        · have hal' : ¬ (a : Int) < l.length := by omega
          clear hO haf
          repeat' (first
 | (apply Awp.sreg; (case hn => (simp only [List.length_cons, List.length_nil, Nat.reduceAdd] <;> rfl)))
 | (refine st_nil ?_)
 | (apply st_a; (case hc => rfl); (case he => (simp only [go_sem, *] <;> rfl)); (case hu => (simp only [updL_nil, updL_cons] <;> rfl)); (case hp => first | trivial))
 | (apply st_c; (case hc => (simp only [go_sem, *] <;> rfl)); (case hl => (simp only [go_sem, *] <;> rfl)); (case hn => (simp only [go_sem, *] <;> rfl)); (case hp => first | exact awake_ok | (have hXz := awake_ok; simp only [go_sem, *] at hXz; exact hXz)))
 | (refine Awp.ret ?_; try simp only [go_sem, *])
 | (refine Awp.exit ?_; try simp only [go_sem, *])
 | (apply Awp.cond; (case hc => (simp only [go_sem, *] <;> rfl)); all_goals (intro hg; (try simp only [Bool.not_true, Bool.not_false, reduceCtorEq] at hg)))
 | refine Awp.seq ?_)
          all_goals repeat' (first | exact Lower.bool (by first | rfl | (simp only [true_and, Bool.true_and, Bool.false_and, Bool.and_true, Bool.and_false, Bool.true_or, Bool.false_or, reduceIte, Bool.false_eq_true, *]; done) | (simp only [true_and, reduceIte, Bool.false_eq_true, *] <;> rfl) | (simp [true_and]; done) | (simp_all [true_and]; done) | omega))
end Go.Proofs
end
